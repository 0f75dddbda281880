/- What the statement StockKept leans on, part 5 of 6: contracts of the program's functions; conditions: none. -/
import Derived.Deep.RegionHeld3
import Derived.Deep.Slices
import Derived.ChangeSame
import Derived.OpenShut
import Derived.SizedLaws
import Derived.Lib.SmallJoins
import Derived.Test.YtmhomdohhihlcaaStockKeptx0
import Derived.Test.YtmhomdohhihlcaaStockKeptx1
import Derived.Test.YtmhomdohhihlcaaStockKeptx2
import Derived.Test.YtmhomdohhihlcaaStockKeptx3
set_option linter.unusedVariables false
set_option linter.unusedSimpArgs false
set_option linter.constructorNameAsVariable false
set_option linter.unusedSectionVars false
namespace Go.Proofs.Ytmhomdohhihlcaa.P
open Go.RowKit Go.Proofs.YtmhomdohhihlcaaW.PrintWords Go.Proofs.YtmhomdohhihlcaaW.PrintLast Go.Proofs.YtmhomdohhihlcaaW.PrintMore
section
attribute [local go_sem] Ys Yu YG YH Yj Yk Yt Yv
attribute [local go_sem high] qog
def YY.l0:Nat→List (S25)→List (S25)→Int→Option (Bool)
 | 0,_,_,_=>none
 | k+1,x0,x1,x5=>if x5<(x0.length:Int) then (if 0≤x5 then (if x5<(x1.length:Int) then (if (!(((YR x0 x5).f0)==((YR x1 x5).f0))||(!(((YR x0 x5).f1)==((YR x1 x5).f1))))=true then (some false) else (YY.l0 k x0 x1 (wrap64 (x5+1)))) else (none)) else (none)) else (some true)
def YY.f (k:Nat) (l0:List (S25)) (l1:List (S25)):Option (Bool):=if (l0.length:Int)=(l1.length:Int) then (YY.l0 k l0 l1 0) else (some false)
set_option maxHeartbeats 8000000 in
set_option maxRecDepth 100000 in
theorem YY.calls (k:Nat) (A0:Option Addr) (c0:Nat) (l0:List (S25)) (A1:Option Addr) (c1:Nat) (l1:List (S25)) (r:Bool) (w:World) (hr0:Kd.C k25 w A0 l0.length l0) (hc0:l0.length≤c0) (hr1:Kd.C k25 w A1 l1.length l1) (hc1:l1.length≤c1) (h:YY.f k l0 l1=some r) :
  Calls Try.prog 24 #[.slice A0 l0.length c0,.slice A1 l1.length c1] w fun e w'=>e = .returned (.bool r)∧YF w w':=by
 have qc8:=Try.underlying25
 have HR0:=Q0.mk hr0
 have HC0:=Q0.mk hc0
 clear hr0 hc0
 have HR1:=Q0.mk hr1
 have HC1:=Q0.mk hc1
 clear hr1 hc1
 have H:(if (l0.length:Int)=(l1.length:Int) then (YY.l0 k l0 l1 0) else (some false))=some r:=h
 clear h
 by_cases c3:(l0.length:Int)=(l1.length:Int)
 ·
  rw [if_pos c3] at H
  have c3b0:((l0.length:Int)==(l1.length:Int))=true:=beq_iff_eq.mpr c3
  have c3b1:((l0.length:Int) != (l1.length:Int))=false:=bne_eq_false_iff_eq.mpr c3
  have c3b2:(l0.length==l1.length)=true:=by first|simpa using c3|(simp at c3 ⊢;omega)
  clear c3
  have H':=Q0.mk H
  clear H
  go_enter Try.func24,Try.ntmps24
  go_wp2
  repeat (go_quiet (fail);try go_wp2)
  go_loopg [5] k (fun kq v5 w' => ∃ (ZW:Int),v5 = .int .i64 ZW∧Q0 (YY.l0 kq l0 l1 ZW=some r)∧Q0 (kq≤k)∧YF w w')
  case atStart=>exact ⟨(0),(by first|rfl|(simp;done)|(simp [*];done)),H',⟨Nat.le_refl _⟩,by repeat (first|exact YF.refl _|apply YF.step)⟩
  case round =>
   clear H'
   try clear c1
   try clear c2
   try clear p2
   try clear c3
   try clear c3b0
   try clear c3b1
   try clear c3b2
   obtain ⟨ZW,rfl,HA,HK1,⟨m1,rfl⟩⟩:=hrel
   cases gk with
   | zero=>exact absurd HA.out (by simp [YY.l0])
   | succ k1 =>
    have H:=HA.out;clear HA;simp only [YY.l0] at H
    by_cases c4:ZW<(l0.length:Int)
    ·
     rw [if_pos c4] at H;have c4b0:decide (ZW<(l0.length:Int))=true:=decide_eq_true c4;clear c4
     by_cases c5:0≤ZW
     ·
      rw [if_pos c5] at H;have c5b0:decide (0≤ZW)=true:=decide_eq_true c5;clear c5
      by_cases c6:ZW<(l1.length:Int)
      ·
       rw [if_pos c6] at H;have c6b0:decide (ZW<(l1.length:Int))=true:=decide_eq_true c6;clear c6
       by_cases c7:(!(((YR l0 ZW).f0)==((YR l1 ZW).f0))||(!(((YR l0 ZW).f1)==((YR l1 ZW).f1))))=true
       ·
        rw [if_pos c7] at H;have c7b0:(!(((YR l0 ZW).f0)==((YR l1 ZW).f0))||(!(((YR l0 ZW).f1)==((YR l1 ZW).f1))))=true:=c7;clear c7;obtain rfl:=Option.some.inj H;have qjU:0≤(ZW:Int):=of_decide_eq_true (by first|(with_reducible assumption)|assumption);have qkc:ZW<(l0.length:Int):=of_decide_eq_true (by first|(with_reducible assumption)|assumption);obtain ⟨qvS,qtH,qrj,qrk⟩:=WK HR0.out ZW qjU qkc;cases qtH;replace qjU:=eq_true qjU;replace qkc:=eq_true qkc;have qjV:0≤(ZW:Int):=of_decide_eq_true (by first|(with_reducible assumption)|assumption);have qkd:ZW<(l1.length:Int):=of_decide_eq_true (by first|(with_reducible assumption)|assumption);obtain ⟨qvT,e143,qrl,qrm⟩:=WK HR1.out ZW qjV qkd;cases e143;replace qjV:=eq_true qjV;replace qkd:=eq_true qkd
        go_wp2
        repeat (go_quiet (fail);try go_wp2)
        go_ret
        exact ⟨by first|rfl|(simp;done)|(simp [*];done),by repeat (first|exact YF.refl _|apply YF.step)⟩
       rw [if_neg c7] at H
       have c7b0:(!(((YR l0 ZW).f0)==((YR l1 ZW).f0))||(!(((YR l0 ZW).f1)==((YR l1 ZW).f1))))=false:=by simpa using c7
       clear c7;have H':=Q0.mk H;clear H;have qjU:0≤(ZW:Int):=of_decide_eq_true (by first|(with_reducible assumption)|assumption);have qkc:ZW<(l0.length:Int):=of_decide_eq_true (by first|(with_reducible assumption)|assumption);obtain ⟨qvS,qtH,qrj,qrk⟩:=WK HR0.out ZW qjU qkc;cases qtH;replace qjU:=eq_true qjU;replace qkc:=eq_true qkc;have qjV:0≤(ZW:Int):=of_decide_eq_true (by first|(with_reducible assumption)|assumption);have qkd:ZW<(l1.length:Int):=of_decide_eq_true (by first|(with_reducible assumption)|assumption);obtain ⟨qvT,e143,qrl,qrm⟩:=WK HR1.out ZW qjV qkd;cases e143;replace qjV:=eq_true qjV;replace qkd:=eq_true qkd
       go_wp2
       repeat (go_quiet (fail);try go_wp2)
       go_roundg k1
       case measure=>have:=HK1.out;omega
       case rel=>exact ⟨(wrap64 (ZW+1)),(by first|rfl|(simp;done)|(simp [*];done)),H',⟨by have:=HK1.out;omega⟩,by repeat (first|exact YF.refl _|apply YF.step)⟩
      rw [if_neg c6] at H
      exact absurd H (by simp)
     rw [if_neg c5] at H
     exact absurd H (by simp)
    rw [if_neg c4] at H;have c4b0:decide (ZW<(l0.length:Int))=false:=decide_eq_false c4;clear c4;obtain rfl:=Option.some.inj H
    go_wp2
    repeat (go_quiet (fail);try go_wp2)
    go_ret
    exact ⟨by first|rfl|(simp;done)|(simp [*];done),by repeat (first|exact YF.refl _|apply YF.step)⟩
 rw [if_neg c3] at H
 have c3b0:((l0.length:Int)==(l1.length:Int))=false:=beq_eq_false_iff_ne.mpr c3
 have c3b1:((l0.length:Int) != (l1.length:Int))=true:=bne_iff_ne.mpr c3
 have c3b2:(l0.length==l1.length)=false:=by first|simpa using c3|(simp at c3 ⊢;omega)
 obtain rfl:=Option.some.inj H
 go_enter Try.func24,Try.ntmps24
 go_wp2
 repeat (go_quiet (fail);try go_wp2)
 go_ret
 exact ⟨by first|rfl|(simp;done)|(simp [*];done),by repeat (first|exact YF.refl _|apply YF.step)⟩
end
section
attribute [local go_sem] Ys Yu YG YH Yj Yk Yt Yv
def Z8.l0:Nat→List Int→List Int→Int→Option (Bool)
 | 0,_,_,_=>none
 | k+1,x0,x1,x5=>if x5<(x0.length:Int) then (if 0≤x5 then (if x5<(x1.length:Int) then (if (rd x0 x5)=(rd x1 x5) then (Z8.l0 k x0 x1 (wrap64 (x5+1))) else (some false)) else (none)) else (none)) else (some true)
def Z8.f (k:Nat) (l0:List Int) (l1:List Int):Option (Bool):=if (l0.length:Int)=(l1.length:Int) then (Z8.l0 k l0 l1 0) else (some false)
set_option maxHeartbeats 8000000 in
set_option maxRecDepth 100000 in
theorem Z8.calls (k:Nat) (A0:Option Addr) (c0:Nat) (l0:List Int) (A1:Option Addr) (c1:Nat) (l1:List Int) (r:Bool) (w:World) (hr0:Kd.C (Kd.int .i64) w A0 l0.length l0) (hc0:l0.length≤c0) (hr1:Kd.C (Kd.int .i64) w A1 l1.length l1) (hc1:l1.length≤c1) (h:Z8.f k l0 l1=some r) :
  Calls Try.prog 27 #[.slice A0 l0.length c0,.slice A1 l1.length c1] w fun e w'=>e = .returned (.bool r)∧YF w w':=by
 have HR0:=Q0.mk hr0
 have HC0:=Q0.mk hc0
 clear hr0 hc0
 have HR1:=Q0.mk hr1
 have HC1:=Q0.mk hc1
 clear hr1 hc1
 have H:(if (l0.length:Int)=(l1.length:Int) then (Z8.l0 k l0 l1 0) else (some false))=some r:=h
 clear h
 by_cases c3:(l0.length:Int)=(l1.length:Int)
 ·
  rw [if_pos c3] at H
  have c3b0:((l0.length:Int)==(l1.length:Int))=true:=beq_iff_eq.mpr c3
  have c3b1:((l0.length:Int) != (l1.length:Int))=false:=bne_eq_false_iff_eq.mpr c3
  have c3b2:(l0.length==l1.length)=true:=by first|simpa using c3|(simp at c3 ⊢;omega)
  clear c3
  have H':=Q0.mk H
  clear H
  go_enter Try.func27,Try.ntmps27
  go_wp2
  repeat (go_quiet (fail);try go_wp2)
  go_loopg [5] k (fun kq v5 w' => ∃ (ZW:Int),v5 = .int .i64 ZW∧Q0 (Z8.l0 kq l0 l1 ZW=some r)∧Q0 (kq≤k)∧YF w w')
  case atStart=>exact ⟨(0),(by first|rfl|(simp;done)|(simp [*];done)),H',⟨Nat.le_refl _⟩,by repeat (first|exact YF.refl _|apply YF.step)⟩
  case round =>
   clear H'
   try clear c1
   try clear c2
   try clear p2
   try clear c3
   try clear c3b0
   try clear c3b1
   try clear c3b2
   obtain ⟨ZW,rfl,HA,HK1,⟨m1,rfl⟩⟩:=hrel
   cases gk with
   | zero=>exact absurd HA.out (by simp [Z8.l0])
   | succ k1 =>
    have H:=HA.out;clear HA;simp only [Z8.l0] at H
    by_cases c4:ZW<(l0.length:Int)
    ·
     rw [if_pos c4] at H;have c4b0:decide (ZW<(l0.length:Int))=true:=decide_eq_true c4;clear c4
     by_cases c5:0≤ZW
     ·
      rw [if_pos c5] at H;have c5b0:decide (0≤ZW)=true:=decide_eq_true c5;clear c5
      by_cases c6:ZW<(l1.length:Int)
      ·
       rw [if_pos c6] at H;have c6b0:decide (ZW<(l1.length:Int))=true:=decide_eq_true c6;clear c6
       by_cases c7:(rd l0 ZW)=(rd l1 ZW)
       ·
        rw [if_pos c7] at H;have c7b0:((rd l0 ZW)==(rd l1 ZW))=true:=beq_iff_eq.mpr c7;have c7b1:((rd l0 ZW) != (rd l1 ZW))=false:=bne_eq_false_iff_eq.mpr c7;clear c7;have H':=Q0.mk H;clear H;have qjX:0≤(ZW:Int):=of_decide_eq_true (by first|(with_reducible assumption)|assumption);have qkf:ZW<(l0.length:Int):=of_decide_eq_true (by first|(with_reducible assumption)|assumption);obtain ⟨qvW,e185,qrn⟩:=Kd.at_int HR0.out ZW qjX qkf;cases e185;replace qjX:=eq_true qjX;replace qkf:=eq_true qkf;have qjY:0≤(ZW:Int):=of_decide_eq_true (by first|(with_reducible assumption)|assumption);have qkg:ZW<(l1.length:Int):=of_decide_eq_true (by first|(with_reducible assumption)|assumption);obtain ⟨qvX,qtK,qro⟩:=Kd.at_int HR1.out ZW qjY qkg;cases qtK;replace qjY:=eq_true qjY;replace qkg:=eq_true qkg
        go_wp2
        repeat (go_quiet (fail);try go_wp2)
        go_roundg k1
        case measure=>have:=HK1.out;omega
        case rel=>exact ⟨(wrap64 (ZW+1)),(by first|rfl|(simp;done)|(simp [*];done)),H',⟨by have:=HK1.out;omega⟩,by repeat (first|exact YF.refl _|apply YF.step)⟩
       rw [if_neg c7] at H;have c7b0:((rd l0 ZW)==(rd l1 ZW))=false:=beq_eq_false_iff_ne.mpr c7;have c7b1:((rd l0 ZW) != (rd l1 ZW))=true:=bne_iff_ne.mpr c7;obtain rfl:=Option.some.inj H;have qjX:0≤(ZW:Int):=of_decide_eq_true (by first|(with_reducible assumption)|assumption);have qkf:ZW<(l0.length:Int):=of_decide_eq_true (by first|(with_reducible assumption)|assumption);obtain ⟨qvW,e185,qrn⟩:=Kd.at_int HR0.out ZW qjX qkf;cases e185;replace qjX:=eq_true qjX;replace qkf:=eq_true qkf;have qjY:0≤(ZW:Int):=of_decide_eq_true (by first|(with_reducible assumption)|assumption);have qkg:ZW<(l1.length:Int):=of_decide_eq_true (by first|(with_reducible assumption)|assumption);obtain ⟨qvX,qtK,qro⟩:=Kd.at_int HR1.out ZW qjY qkg;cases qtK;replace qjY:=eq_true qjY;replace qkg:=eq_true qkg
       go_wp2
       repeat (go_quiet (fail);try go_wp2)
       go_ret
       exact ⟨by first|rfl|(simp;done)|(simp [*];done),by repeat (first|exact YF.refl _|apply YF.step)⟩
      rw [if_neg c6] at H
      exact absurd H (by simp)
     rw [if_neg c5] at H
     exact absurd H (by simp)
    rw [if_neg c4] at H;have c4b0:decide (ZW<(l0.length:Int))=false:=decide_eq_false c4;clear c4;obtain rfl:=Option.some.inj H
    go_wp2
    repeat (go_quiet (fail);try go_wp2)
    go_ret
    exact ⟨by first|rfl|(simp;done)|(simp [*];done),by repeat (first|exact YF.refl _|apply YF.step)⟩
 rw [if_neg c3] at H
 have c3b0:((l0.length:Int)==(l1.length:Int))=false:=beq_eq_false_iff_ne.mpr c3
 have c3b1:((l0.length:Int) != (l1.length:Int))=true:=bne_iff_ne.mpr c3
 have c3b2:(l0.length==l1.length)=false:=by first|simpa using c3|(simp at c3 ⊢;omega)
 obtain rfl:=Option.some.inj H
 go_enter Try.func27,Try.ntmps27
 go_wp2
 repeat (go_quiet (fail);try go_wp2)
 go_ret
 exact ⟨by first|rfl|(simp;done)|(simp [*];done),by repeat (first|exact YF.refl _|apply YF.step)⟩
end
section
attribute [local go_sem] Ys Yu YG YH Yj Yk Yt Yv
def QN.f (a0:Int) (a1:Int):Option (Int × Int):=some (a0,a1)
set_option maxHeartbeats 8000000 in
set_option maxRecDepth 100000 in
theorem QN.calls (a0:Int) (a1:Int) (r1:Int) (r2:Int) (w:World) (h:QN.f a0 a1=some (r1,r2)) :
  Calls Try.prog 43 #[.int .i64 a0,.int .i64 a1] w fun e w'=>e = .returned (.agg #[.int .i64 r1,.int .i64 r2])∧Below w.heap.size w w':=by
 have qc8:=Try.underlying25
 have HB:=Q0.mk (Below.refl w.heap.size w)
 have H:(some (a0,a1))=some (r1,r2):=h
 clear h
 simp only [Option.some.injEq,Prod.mk.injEq] at H
 obtain ⟨rfl,rfl⟩:=H
 go_enter Try.func43,Try.ntmps43
 go_wp2_with (first|((with_reducible refine QZ (N:=4) rfl ?_);refine Yp ?hg (N:=4) ?hd (cs:=#[.int .i64 0,.int .i64 0]) (t:=25) ?hr ?_;(case hd=>rfl);(case hg=>rfl);(case hr=>first|(go_simp;done)|(go_simp;rfl));intro qhV hg w3 hbox hb;have n0_:=Q0.mk (Qk (by repeat (first|(with_reducible first|exact HB.out|apply Q3|apply Q1|apply Q6)|exact HB.out)) hb);have n1_:=Q0.mk (hbox);have n2_:=Q0.mk ((by rw [hg];exact (Qi (by repeat (first|(with_reducible first|exact HB.out|apply Q3|apply Q1|apply Q6)|exact HB.out))):w.heap.size≤qhV));have n3_:=n2_;clear HB;have HB:=n0_;have qhy:=n1_;have qGl:=n2_;have qvu:=n3_;clear n0_ n1_ n2_ n3_ hb hbox hg;have GK:w3.cell? ⟨qhV,0,none⟩=some (.int .i64 0):=(Q8 qhy.out 0).trans rfl;have GL:w3.cell? ⟨qhV,1,none⟩=some (.int .i64 0):=(Q8 qhy.out 1).trans rfl;have GM:=Q9 qhy.out 0;have GN:=Q9 qhy.out 1))
 refine bodyPost_ret (results_cell_row rfl _ _ qhV 25 #[.int .i64 a0,.int .i64 a1] (0,0) _ rfl (by (with_reducible repeat (first|refine Q4 ?_ _|refine Q7 ?_|refine Q2 ?_ _));refine QH (cs:=#[.int .i64 a0,.int .i64 0]) ?_ 1 _ rfl;(with_reducible repeat (first|refine Q4 ?_ _|refine Q7 ?_|refine Q2 ?_ _));refine QH (cs:=#[.int .i64 0,.int .i64 0]) ?_ 0 _ rfl;(with_reducible repeat (first|refine Q4 ?_ _|refine Q7 ?_|refine Q2 ?_ _));exact qhy.out) Try.underlying25 rfl (by kernel_rfl)) rfl ?_
 exact ⟨by first|rfl|(simp [Qx,Qy]<;>rfl)|(simp [*,Qx,Qy]<;>rfl),by repeat (first|(with_reducible first|exact HB.out|apply Q3|apply Q1|apply Q6|refine Q5 ?_ qvu.out)|exact HB.out)⟩
end
section
attribute [local go_sem] Ys Yu YG YH Yj Yk Yt Yv
def Jh.f  : Option (List Int × List Int × List Int × Int × Int):=some ((([100,50,20]:List Int)),(([800,700,500]:List Int)),(([0,1,2]:List Int)),60,1)
set_option maxHeartbeats 8000000 in
set_option maxRecDepth 100000 in
theorem Jh.calls  (r1:List Int) (r2:List Int) (r3:List Int) (r4:Int) (r5:Int) (w:World) (h:Jh.f  = some (r1,r2,r3,r4,r5)) :
  Calls Try.prog 57 #[] w fun e w' => ∃ v0_ v1_ v2_:Value,e = .returned (.agg #[v0_,v1_,v2_,.int .i64 r4,.int .i64 r5])∧Kd.R (Kd.int .i64) 3 w' w.heap.size (fun k_=>some k_≠(v1_:Value).ownBlock∧some k_≠(v2_:Value).ownBlock) v0_ r1∧Kd.R (Kd.int .i64) 3 w' w.heap.size (fun k_=>some k_≠(v0_:Value).ownBlock∧some k_≠(v2_:Value).ownBlock) v1_ r2∧Kd.R (Kd.int .i64) 3 w' w.heap.size (fun k_=>some k_≠(v0_:Value).ownBlock∧some k_≠(v1_:Value).ownBlock) v2_ r3∧Below w.heap.size w w':=by
 have qjH:=Try.underlying39
 have HB:=Q0.mk (Below.refl w.heap.size w)
 have H:(some ((([100,50,20]:List Int)),(([800,700,500]:List Int)),(([0,1,2]:List Int)),60,1))=some (r1,r2,r3,r4,r5):=h
 clear h
 obtain ⟨qeO,qh1⟩:∃ y_:List Int,y_=(([100,50,20]:List Int)):=⟨_,rfl⟩
 replace H:(some (qeO,(([800,700,500]:List Int)),(([0,1,2]:List Int)),60,1))=some (r1,r2,r3,r4,r5):=by first|(rw [qh1];with_reducible exact H)|(have H2_:=(Option.bind_some _ _).symm.trans H;rw [qh1];with_reducible exact H2_)|(have H2_:=(Option.bind_some _ _).symm.trans H;with_reducible exact H2_)|with_reducible exact H|(rw [qh1];exact H)|exact H
 have qsh:=Q0.mk qh1
 clear qh1
 obtain ⟨qhr,qh2⟩:∃ y_:List Int,y_=(([800,700,500]:List Int)):=⟨_,rfl⟩
 replace H:(some (qeO,qhr,(([0,1,2]:List Int)),60,1))=some (r1,r2,r3,r4,r5):=by first|(rw [qh2];with_reducible exact H)|(have H2_:=(Option.bind_some _ _).symm.trans H;rw [qh2];with_reducible exact H2_)|(have H2_:=(Option.bind_some _ _).symm.trans H;with_reducible exact H2_)|with_reducible exact H|(rw [qh2];exact H)|exact H
 have qsi:=Q0.mk qh2
 clear qh2
 obtain ⟨qkG,qh3⟩:∃ y_:List Int,y_=(([0,1,2]:List Int)):=⟨_,rfl⟩
 replace H:(some (qeO,qhr,qkG,60,1))=some (r1,r2,r3,r4,r5):=by first|(rw [qh3];with_reducible exact H)|(have H2_:=(Option.bind_some _ _).symm.trans H;rw [qh3];with_reducible exact H2_)|(have H2_:=(Option.bind_some _ _).symm.trans H;with_reducible exact H2_)|with_reducible exact H|(rw [qh3];exact H)|exact H
 have qsj:=Q0.mk qh3
 clear qh3
 simp only [Option.some.injEq,Prod.mk.injEq] at H
 obtain ⟨rfl,rfl,rfl,rfl,rfl⟩:=H
 go_enter Try.func57,Try.ntmps57
 go_wp2_with (first|((with_reducible refine QZ (N:=0) rfl ?_);refine Yp ?hg (N:=0) ?hd (cs:=#[.slice none 0 0,.slice none 0 0,.slice none 0 0,.int .i64 0,.int .i64 0]) (t:=39) ?hr ?_;(case hd=>rfl);(case hg=>rfl);(case hr=>first|(go_simp;done)|(go_simp;rfl));intro GT hg w1 hbox hb;have n0_:=Q0.mk (Qk (by repeat (first|(with_reducible first|exact HB.out|apply Q3|apply Q1|apply Q6)|exact HB.out)) hb);have n1_:=Q0.mk (hbox);have n2_:=Q0.mk ((by rw [hg];exact (Qi (by repeat (first|(with_reducible first|exact HB.out|apply Q3|apply Q1|apply Q6)|exact HB.out))):w.heap.size≤GT));have n3_:=n2_;clear HB;have HB:=n0_;have KA:=n1_;have qGm:=n2_;have qeb:=n3_;clear n0_ n1_ n2_ n3_ hb hbox hg)|((with_reducible refine QZ (N:=1) rfl ?_);refine Kd.R_lit (Kd.int .i64) _ 3 ?hg (N:=1) ?hd (xs:=([100,50,20]:List Int)) (inner:=[.int .i64 100,.int .i64 50,.int .i64 20]) (ok:=fun _=>True) (okp:=fun _=>True) ?hr ?hp (fun _ hk=>hk) trivial (Below.refl _ _) (Nat.le_refl _) (by simp) ?_;(case hd=>rfl);(case hg=>rfl);(case hr=>first|(go_simp;done)|(go_simp;rfl));(case hp=>exact (Reps.one (show Kd.M (Kd.int .i64) _ _ _ 100 [.int .i64 100] from rfl) (Reps.one (show Kd.M (Kd.int .i64) _ _ _ 50 [.int .i64 50] from rfl) (Reps.one (show Kd.M (Kd.int .i64) _ _ _ 20 [.int .i64 20] from rfl) (Reps.none _ _)))));intro qJF w2 ho3 hb hg_ hnew_;clear hg_ hnew_;(first|rw [← qsh.out] at ho3|(simp only [Int.reduceToNat] at ho3;rw [← qsh.out] at ho3));have n0_:=Q0.mk (Kd.R_lower ho3 (Qi (by repeat (first|(with_reducible first|exact HB.out|apply Q3|apply Q1|apply Q6|refine Q5 ?_ qeb.out)|exact HB.out))));have n1_:=Q0.mk (Qf (g:=GT) (by (with_reducible repeat (first|refine Q4 ?_ _|refine Q7 ?_|refine Q2 ?_ _));exact KA.out) hb);have n2_:=Q0.mk (Qk (by repeat (first|(with_reducible first|exact HB.out|apply Q3|apply Q1|apply Q6|refine Q5 ?_ qeb.out)|exact HB.out)) hb);clear KA HB;have qaE:=n0_;have KA:=n1_;have HB:=n2_;clear n0_ n1_ n2_ hb ho3)|((with_reducible refine QZ (N:=2) rfl ?_);refine Kd.R_lit (Kd.int .i64) _ 3 ?hg (N:=2) ?hd (xs:=([800,700,500]:List Int)) (inner:=[.int .i64 800,.int .i64 700,.int .i64 500]) (ok:=fun _=>True) (okp:=fun _=>True) ?hr ?hp (fun _ hk=>hk) trivial (Below.refl _ _) (Nat.le_refl _) (by simp) ?_;(case hd=>rfl);(case hg=>rfl);(case hr=>first|(go_simp;done)|(go_simp;rfl));(case hp=>exact (Reps.one (show Kd.M (Kd.int .i64) _ _ _ 800 [.int .i64 800] from rfl) (Reps.one (show Kd.M (Kd.int .i64) _ _ _ 700 [.int .i64 700] from rfl) (Reps.one (show Kd.M (Kd.int .i64) _ _ _ 500 [.int .i64 500] from rfl) (Reps.none _ _)))));intro qJG w4 ho5 hb hg_ hnew_;clear hg_ hnew_;(first|rw [← qsi.out] at ho5|(simp only [Int.reduceToNat] at ho5;rw [← qsi.out] at ho5));have n0_:=Q0.mk (Kd.R_elder' (by (with_reducible repeat (first|apply Kd.R_alloc|apply Kd.R_drewN|apply Kd.R_drew));exact qaE.out) (Kd.R_base ho5) hb);have n1_:=Q0.mk (Kd.R_lower (Kd.R_new' ho5 (Kd.R_lt (by (with_reducible repeat (first|apply Kd.R_alloc|apply Kd.R_drewN|apply Kd.R_drew));exact qaE.out))) (Qi (by repeat (first|(with_reducible first|exact HB.out|apply Q3|apply Q1|apply Q6|refine Q5 ?_ qeb.out)|exact HB.out))));have n2_:=Q0.mk (Qf (g:=GT) (by (with_reducible repeat (first|refine Q4 ?_ _|refine Q7 ?_|refine Q2 ?_ _));exact KA.out) hb);have n3_:=Q0.mk (Qk (by repeat (first|(with_reducible first|exact HB.out|apply Q3|apply Q1|apply Q6|refine Q5 ?_ qeb.out)|exact HB.out)) hb);clear qaE KA HB;have qaE:=n0_;have qfd:=n1_;have KA:=n2_;have HB:=n3_;clear n0_ n1_ n2_ n3_ hb ho5)|((with_reducible refine QZ (N:=3) rfl ?_);refine Kd.R_lit (Kd.int .i64) _ 3 ?hg (N:=3) ?hd (xs:=([0,1,2]:List Int)) (inner:=[.int .i64 0,.int .i64 1,.int .i64 2]) (ok:=fun _=>True) (okp:=fun _=>True) ?hr ?hp (fun _ hk=>hk) trivial (Below.refl _ _) (Nat.le_refl _) (by simp) ?_;(case hd=>rfl);(case hg=>rfl);(case hr=>first|(go_simp;done)|(go_simp;rfl));(case hp=>exact (Reps.one (show Kd.M (Kd.int .i64) _ _ _ 0 [.int .i64 0] from rfl) (Reps.one (show Kd.M (Kd.int .i64) _ _ _ 1 [.int .i64 1] from rfl) (Reps.one (show Kd.M (Kd.int .i64) _ _ _ 2 [.int .i64 2] from rfl) (Reps.none _ _)))));intro qJH w6 ho7 hb hg_ hnew_;clear hg_ hnew_;(first|rw [← qsj.out] at ho7|(simp only [Int.reduceToNat] at ho7;rw [← qsj.out] at ho7));have n0_:=Q0.mk (Kd.R_elder' (by (with_reducible repeat (first|apply Kd.R_alloc|apply Kd.R_drewN|apply Kd.R_drew));exact qaE.out) (Kd.R_base ho7) hb);have n1_:=Q0.mk (Kd.R_elder' (by (with_reducible repeat (first|apply Kd.R_alloc|apply Kd.R_drewN|apply Kd.R_drew));exact qfd.out) (Kd.R_base ho7) hb);have n2_:=Q0.mk (Kd.R_lower (Kd.R_new' (Kd.R_new' ho7 (Kd.R_lt (by (with_reducible repeat (first|apply Kd.R_alloc|apply Kd.R_drewN|apply Kd.R_drew));exact qaE.out))) (Kd.R_lt (by (with_reducible repeat (first|apply Kd.R_alloc|apply Kd.R_drewN|apply Kd.R_drew));exact qfd.out))) (Qi (by repeat (first|(with_reducible first|exact HB.out|apply Q3|apply Q1|apply Q6|refine Q5 ?_ qeb.out)|exact HB.out))));have n3_:=Q0.mk (Qf (g:=GT) (by (with_reducible repeat (first|refine Q4 ?_ _|refine Q7 ?_|refine Q2 ?_ _));exact KA.out) hb);have n4_:=Q0.mk (Qk (by repeat (first|(with_reducible first|exact HB.out|apply Q3|apply Q1|apply Q6|refine Q5 ?_ qeb.out)|exact HB.out)) hb);clear qaE qfd KA HB;have qaE:=n0_;have qfd:=n1_;have qsd:=n2_;have KA:=n3_;have HB:=n4_;clear n0_ n1_ n2_ n3_ n4_ hb ho7;obtain ⟨Ao8,co8,eo8⟩:=Kd.R_slice qsd.out;subst eo8;obtain ⟨Ao9,co9,eo9⟩:=Kd.R_slice qfd.out;subst eo9;obtain ⟨Wr,WB,qof⟩:=Kd.R_slice qaE.out;subst qof;have qbq:w6.cell? ⟨GT,0,none⟩=some (.slice none 0 0):=(Q8 KA.out 0).trans rfl;have qbr:w6.cell? ⟨GT,1,none⟩=some (.slice none 0 0):=(Q8 KA.out 1).trans rfl;have qbs:w6.cell? ⟨GT,2,none⟩=some (.slice none 0 0):=(Q8 KA.out 2).trans rfl;have qbt:w6.cell? ⟨GT,3,none⟩=some (.int .i64 0):=(Q8 KA.out 3).trans rfl;have qbu:w6.cell? ⟨GT,4,none⟩=some (.int .i64 0):=(Q8 KA.out 4).trans rfl;have qby:=Q9 KA.out 0;have qbz:=Q9 KA.out 1;have qbA:=Q9 KA.out 2;have qbB:=Q9 KA.out 3;have qbC:=Q9 KA.out 4))
 refine bodyPost_ret (results_cell_row rfl _ _ GT 39 #[.slice Wr qeO.length WB,.slice Ao9 qhr.length co9,.slice Ao8 qkG.length co8,.int .i64 60,.int .i64 1] (0,0) _ rfl (by (with_reducible repeat (first|refine Q4 ?_ _|refine Q7 ?_|refine Q2 ?_ _));refine QH (cs:=#[.slice Wr qeO.length WB,.slice Ao9 qhr.length co9,.slice Ao8 qkG.length co8,.int .i64 60,.int .i64 0]) ?_ 4 _ rfl;(with_reducible repeat (first|refine Q4 ?_ _|refine Q7 ?_|refine Q2 ?_ _));refine QH (cs:=#[.slice Wr qeO.length WB,.slice Ao9 qhr.length co9,.slice Ao8 qkG.length co8,.int .i64 0,.int .i64 0]) ?_ 3 _ rfl;(with_reducible repeat (first|refine Q4 ?_ _|refine Q7 ?_|refine Q2 ?_ _));refine QH (cs:=#[.slice Wr qeO.length WB,.slice Ao9 qhr.length co9,.slice none 0 0,.int .i64 0,.int .i64 0]) ?_ 2 _ rfl;(with_reducible repeat (first|refine Q4 ?_ _|refine Q7 ?_|refine Q2 ?_ _));refine QH (cs:=#[.slice Wr qeO.length WB,.slice none 0 0,.slice none 0 0,.int .i64 0,.int .i64 0]) ?_ 1 _ rfl;(with_reducible repeat (first|refine Q4 ?_ _|refine Q7 ?_|refine Q2 ?_ _));refine QH (cs:=#[.slice none 0 0,.slice none 0 0,.slice none 0 0,.int .i64 0,.int .i64 0]) ?_ 0 _ rfl;(with_reducible repeat (first|refine Q4 ?_ _|refine Q7 ?_|refine Q2 ?_ _));exact KA.out) Try.underlying39 rfl (by kernel_rfl)) rfl ?_
 exact ⟨_,_,_,by first|rfl|(simp [Qx,Qy]<;>rfl)|(simp [*,Qx,Qy]<;>rfl),by (with_reducible repeat (first|apply Kd.R_alloc|apply Kd.R_drewN|apply Kd.R_drew));exact Kd.R_mono (Kd.R_far (p:=⟨GT,4,none⟩) (Kd.R_far (p:=⟨GT,3,none⟩) (Kd.R_far (p:=⟨GT,2,none⟩) (Kd.R_far (p:=⟨GT,1,none⟩) (Kd.R_far (p:=⟨GT,0,none⟩) (Kd.R_types qaE.out KA.out (by decide)) (fun _ hk=>hk.2) (.slice Wr qeO.length WB)) (fun _ hk=>hk.2) (.slice Ao9 qhr.length co9)) (fun _ hk=>hk.2) (.slice Ao8 qkG.length co8)) (fun _ hk=>hk.2) (.int .i64 60)) (fun _ hk=>hk.2) (.int .i64 1)) (fun _ hk=>⟨hk.1.1.2,hk.1.2⟩),by (with_reducible repeat (first|apply Kd.R_alloc|apply Kd.R_drewN|apply Kd.R_drew));exact Kd.R_mono (Kd.R_far (p:=⟨GT,4,none⟩) (Kd.R_far (p:=⟨GT,3,none⟩) (Kd.R_far (p:=⟨GT,2,none⟩) (Kd.R_far (p:=⟨GT,1,none⟩) (Kd.R_far (p:=⟨GT,0,none⟩) (Kd.R_types qfd.out KA.out (by decide)) (fun _ hk=>hk.2) (.slice Wr qeO.length WB)) (fun _ hk=>hk.2) (.slice Ao9 qhr.length co9)) (fun _ hk=>hk.2) (.slice Ao8 qkG.length co8)) (fun _ hk=>hk.2) (.int .i64 60)) (fun _ hk=>hk.2) (.int .i64 1)) (fun _ hk=>⟨hk.1.1.2,hk.1.2⟩),by (with_reducible repeat (first|apply Kd.R_alloc|apply Kd.R_drewN|apply Kd.R_drew));exact Kd.R_mono (Kd.R_far (p:=⟨GT,4,none⟩) (Kd.R_far (p:=⟨GT,3,none⟩) (Kd.R_far (p:=⟨GT,2,none⟩) (Kd.R_far (p:=⟨GT,1,none⟩) (Kd.R_far (p:=⟨GT,0,none⟩) (Kd.R_types qsd.out KA.out (by decide)) (fun _ hk=>hk.2) (.slice Wr qeO.length WB)) (fun _ hk=>hk.2) (.slice Ao9 qhr.length co9)) (fun _ hk=>hk.2) (.slice Ao8 qkG.length co8)) (fun _ hk=>hk.2) (.int .i64 60)) (fun _ hk=>hk.2) (.int .i64 1)) (fun _ hk=>⟨hk.1.1.2,hk.1.2⟩),by repeat (first|(with_reducible first|exact HB.out|apply Q3|apply Q1|apply Q6|refine Q5 ?_ qeb.out)|exact HB.out)⟩
end
section
attribute [local go_sem] Ys Yu YG YH Yj Yk Yt Yv
def Jz.f  : Option (List Int × List Int × List Int × Int × Int):=some ((([60,60]:List Int)),(([500,500]:List Int)),(([1,1]:List Int)),50,0)
set_option maxHeartbeats 8000000 in
set_option maxRecDepth 100000 in
theorem Jz.calls  (r1:List Int) (r2:List Int) (r3:List Int) (r4:Int) (r5:Int) (w:World) (h:Jz.f  = some (r1,r2,r3,r4,r5)) :
  Calls Try.prog 94 #[] w fun e w' => ∃ v0_ v1_ v2_:Value,e = .returned (.agg #[v0_,v1_,v2_,.int .i64 r4,.int .i64 r5])∧Kd.R (Kd.int .i64) 3 w' w.heap.size (fun k_=>some k_≠(v1_:Value).ownBlock∧some k_≠(v2_:Value).ownBlock) v0_ r1∧Kd.R (Kd.int .i64) 3 w' w.heap.size (fun k_=>some k_≠(v0_:Value).ownBlock∧some k_≠(v2_:Value).ownBlock) v1_ r2∧Kd.R (Kd.int .i64) 3 w' w.heap.size (fun k_=>some k_≠(v0_:Value).ownBlock∧some k_≠(v1_:Value).ownBlock) v2_ r3∧Below w.heap.size w w':=by
 have qjH:=Try.underlying39
 have HB:=Q0.mk (Below.refl w.heap.size w)
 have H:(some ((([60,60]:List Int)),(([500,500]:List Int)),(([1,1]:List Int)),50,0))=some (r1,r2,r3,r4,r5):=h
 clear h
 obtain ⟨qeP,qh4⟩:∃ y_:List Int,y_=(([60,60]:List Int)):=⟨_,rfl⟩
 replace H:(some (qeP,(([500,500]:List Int)),(([1,1]:List Int)),50,0))=some (r1,r2,r3,r4,r5):=by first|(rw [qh4];with_reducible exact H)|(have H2_:=(Option.bind_some _ _).symm.trans H;rw [qh4];with_reducible exact H2_)|(have H2_:=(Option.bind_some _ _).symm.trans H;with_reducible exact H2_)|with_reducible exact H|(rw [qh4];exact H)|exact H
 have qsk:=Q0.mk qh4
 clear qh4
 obtain ⟨qhs,qh5⟩:∃ y_:List Int,y_=(([500,500]:List Int)):=⟨_,rfl⟩
 replace H:(some (qeP,qhs,(([1,1]:List Int)),50,0))=some (r1,r2,r3,r4,r5):=by first|(rw [qh5];with_reducible exact H)|(have H2_:=(Option.bind_some _ _).symm.trans H;rw [qh5];with_reducible exact H2_)|(have H2_:=(Option.bind_some _ _).symm.trans H;with_reducible exact H2_)|with_reducible exact H|(rw [qh5];exact H)|exact H
 have qsl:=Q0.mk qh5
 clear qh5
 obtain ⟨qkH,qh6⟩:∃ y_:List Int,y_=(([1,1]:List Int)):=⟨_,rfl⟩
 replace H:(some (qeP,qhs,qkH,50,0))=some (r1,r2,r3,r4,r5):=by first|(rw [qh6];with_reducible exact H)|(have H2_:=(Option.bind_some _ _).symm.trans H;rw [qh6];with_reducible exact H2_)|(have H2_:=(Option.bind_some _ _).symm.trans H;with_reducible exact H2_)|with_reducible exact H|(rw [qh6];exact H)|exact H
 have qsm:=Q0.mk qh6
 clear qh6
 simp only [Option.some.injEq,Prod.mk.injEq] at H
 obtain ⟨rfl,rfl,rfl,rfl,rfl⟩:=H
 go_enter Try.func94,Try.ntmps94
 go_wp2_with (first|((with_reducible refine QZ (N:=0) rfl ?_);refine Yp ?hg (N:=0) ?hd (cs:=#[.slice none 0 0,.slice none 0 0,.slice none 0 0,.int .i64 0,.int .i64 0]) (t:=39) ?hr ?_;(case hd=>rfl);(case hg=>rfl);(case hr=>first|(go_simp;done)|(go_simp;rfl));intro GU hg w1 hbox hb;have n0_:=Q0.mk (Qk (by repeat (first|(with_reducible first|exact HB.out|apply Q3|apply Q1|apply Q6)|exact HB.out)) hb);have n1_:=Q0.mk (hbox);have n2_:=Q0.mk ((by rw [hg];exact (Qi (by repeat (first|(with_reducible first|exact HB.out|apply Q3|apply Q1|apply Q6)|exact HB.out))):w.heap.size≤GU));have n3_:=n2_;clear HB;have HB:=n0_;have KB:=n1_;have qGn:=n2_;have qec:=n3_;clear n0_ n1_ n2_ n3_ hb hbox hg)|((with_reducible refine QZ (N:=1) rfl ?_);refine Kd.R_lit (Kd.int .i64) _ 3 ?hg (N:=1) ?hd (xs:=([60,60]:List Int)) (inner:=[.int .i64 60,.int .i64 60]) (ok:=fun _=>True) (okp:=fun _=>True) ?hr ?hp (fun _ hk=>hk) trivial (Below.refl _ _) (Nat.le_refl _) (by simp) ?_;(case hd=>rfl);(case hg=>rfl);(case hr=>first|(go_simp;done)|(go_simp;rfl));(case hp=>exact (Reps.one (show Kd.M (Kd.int .i64) _ _ _ 60 [.int .i64 60] from rfl) (Reps.one (show Kd.M (Kd.int .i64) _ _ _ 60 [.int .i64 60] from rfl) (Reps.none _ _))));intro qJI w2 ho3 hb hg_ hnew_;clear hg_ hnew_;(first|rw [← qsk.out] at ho3|(simp only [Int.reduceToNat] at ho3;rw [← qsk.out] at ho3));have n0_:=Q0.mk (Kd.R_lower ho3 (Qi (by repeat (first|(with_reducible first|exact HB.out|apply Q3|apply Q1|apply Q6|refine Q5 ?_ qec.out)|exact HB.out))));have n1_:=Q0.mk (Qf (g:=GU) (by (with_reducible repeat (first|refine Q4 ?_ _|refine Q7 ?_|refine Q2 ?_ _));exact KB.out) hb);have n2_:=Q0.mk (Qk (by repeat (first|(with_reducible first|exact HB.out|apply Q3|apply Q1|apply Q6|refine Q5 ?_ qec.out)|exact HB.out)) hb);clear KB HB;have qaF:=n0_;have KB:=n1_;have HB:=n2_;clear n0_ n1_ n2_ hb ho3)|((with_reducible refine QZ (N:=2) rfl ?_);refine Kd.R_lit (Kd.int .i64) _ 3 ?hg (N:=2) ?hd (xs:=([500,500]:List Int)) (inner:=[.int .i64 500,.int .i64 500]) (ok:=fun _=>True) (okp:=fun _=>True) ?hr ?hp (fun _ hk=>hk) trivial (Below.refl _ _) (Nat.le_refl _) (by simp) ?_;(case hd=>rfl);(case hg=>rfl);(case hr=>first|(go_simp;done)|(go_simp;rfl));(case hp=>exact (Reps.one (show Kd.M (Kd.int .i64) _ _ _ 500 [.int .i64 500] from rfl) (Reps.one (show Kd.M (Kd.int .i64) _ _ _ 500 [.int .i64 500] from rfl) (Reps.none _ _))));intro qJJ w4 ho5 hb hg_ hnew_;clear hg_ hnew_;(first|rw [← qsl.out] at ho5|(simp only [Int.reduceToNat] at ho5;rw [← qsl.out] at ho5));have n0_:=Q0.mk (Kd.R_elder' (by (with_reducible repeat (first|apply Kd.R_alloc|apply Kd.R_drewN|apply Kd.R_drew));exact qaF.out) (Kd.R_base ho5) hb);have n1_:=Q0.mk (Kd.R_lower (Kd.R_new' ho5 (Kd.R_lt (by (with_reducible repeat (first|apply Kd.R_alloc|apply Kd.R_drewN|apply Kd.R_drew));exact qaF.out))) (Qi (by repeat (first|(with_reducible first|exact HB.out|apply Q3|apply Q1|apply Q6|refine Q5 ?_ qec.out)|exact HB.out))));have n2_:=Q0.mk (Qf (g:=GU) (by (with_reducible repeat (first|refine Q4 ?_ _|refine Q7 ?_|refine Q2 ?_ _));exact KB.out) hb);have n3_:=Q0.mk (Qk (by repeat (first|(with_reducible first|exact HB.out|apply Q3|apply Q1|apply Q6|refine Q5 ?_ qec.out)|exact HB.out)) hb);clear qaF KB HB;have qaF:=n0_;have qfe:=n1_;have KB:=n2_;have HB:=n3_;clear n0_ n1_ n2_ n3_ hb ho5)|((with_reducible refine QZ (N:=3) rfl ?_);refine Kd.R_lit (Kd.int .i64) _ 3 ?hg (N:=3) ?hd (xs:=([1,1]:List Int)) (inner:=[.int .i64 1,.int .i64 1]) (ok:=fun _=>True) (okp:=fun _=>True) ?hr ?hp (fun _ hk=>hk) trivial (Below.refl _ _) (Nat.le_refl _) (by simp) ?_;(case hd=>rfl);(case hg=>rfl);(case hr=>first|(go_simp;done)|(go_simp;rfl));(case hp=>exact (Reps.one (show Kd.M (Kd.int .i64) _ _ _ 1 [.int .i64 1] from rfl) (Reps.one (show Kd.M (Kd.int .i64) _ _ _ 1 [.int .i64 1] from rfl) (Reps.none _ _))));intro qJK w6 ho7 hb hg_ hnew_;clear hg_ hnew_;(first|rw [← qsm.out] at ho7|(simp only [Int.reduceToNat] at ho7;rw [← qsm.out] at ho7));have n0_:=Q0.mk (Kd.R_elder' (by (with_reducible repeat (first|apply Kd.R_alloc|apply Kd.R_drewN|apply Kd.R_drew));exact qaF.out) (Kd.R_base ho7) hb);have n1_:=Q0.mk (Kd.R_elder' (by (with_reducible repeat (first|apply Kd.R_alloc|apply Kd.R_drewN|apply Kd.R_drew));exact qfe.out) (Kd.R_base ho7) hb);have n2_:=Q0.mk (Kd.R_lower (Kd.R_new' (Kd.R_new' ho7 (Kd.R_lt (by (with_reducible repeat (first|apply Kd.R_alloc|apply Kd.R_drewN|apply Kd.R_drew));exact qaF.out))) (Kd.R_lt (by (with_reducible repeat (first|apply Kd.R_alloc|apply Kd.R_drewN|apply Kd.R_drew));exact qfe.out))) (Qi (by repeat (first|(with_reducible first|exact HB.out|apply Q3|apply Q1|apply Q6|refine Q5 ?_ qec.out)|exact HB.out))));have n3_:=Q0.mk (Qf (g:=GU) (by (with_reducible repeat (first|refine Q4 ?_ _|refine Q7 ?_|refine Q2 ?_ _));exact KB.out) hb);have n4_:=Q0.mk (Qk (by repeat (first|(with_reducible first|exact HB.out|apply Q3|apply Q1|apply Q6|refine Q5 ?_ qec.out)|exact HB.out)) hb);clear qaF qfe KB HB;have qaF:=n0_;have qfe:=n1_;have qse:=n2_;have KB:=n3_;have HB:=n4_;clear n0_ n1_ n2_ n3_ n4_ hb ho7;obtain ⟨Ao8,co8,eo8⟩:=Kd.R_slice qse.out;subst eo8;obtain ⟨Ao9,co9,eo9⟩:=Kd.R_slice qfe.out;subst eo9;obtain ⟨Wr,WB,qof⟩:=Kd.R_slice qaF.out;subst qof;have qbq:w6.cell? ⟨GU,0,none⟩=some (.slice none 0 0):=(Q8 KB.out 0).trans rfl;have qbr:w6.cell? ⟨GU,1,none⟩=some (.slice none 0 0):=(Q8 KB.out 1).trans rfl;have qbs:w6.cell? ⟨GU,2,none⟩=some (.slice none 0 0):=(Q8 KB.out 2).trans rfl;have qbt:w6.cell? ⟨GU,3,none⟩=some (.int .i64 0):=(Q8 KB.out 3).trans rfl;have qbu:w6.cell? ⟨GU,4,none⟩=some (.int .i64 0):=(Q8 KB.out 4).trans rfl;have qby:=Q9 KB.out 0;have qbz:=Q9 KB.out 1;have qbA:=Q9 KB.out 2;have qbB:=Q9 KB.out 3;have qbC:=Q9 KB.out 4))
 refine bodyPost_ret (results_cell_row rfl _ _ GU 39 #[.slice Wr qeP.length WB,.slice Ao9 qhs.length co9,.slice Ao8 qkH.length co8,.int .i64 50,.int .i64 0] (0,0) _ rfl (by (with_reducible repeat (first|refine Q4 ?_ _|refine Q7 ?_|refine Q2 ?_ _));refine QH (cs:=#[.slice Wr qeP.length WB,.slice Ao9 qhs.length co9,.slice Ao8 qkH.length co8,.int .i64 50,.int .i64 0]) ?_ 4 _ rfl;(with_reducible repeat (first|refine Q4 ?_ _|refine Q7 ?_|refine Q2 ?_ _));refine QH (cs:=#[.slice Wr qeP.length WB,.slice Ao9 qhs.length co9,.slice Ao8 qkH.length co8,.int .i64 0,.int .i64 0]) ?_ 3 _ rfl;(with_reducible repeat (first|refine Q4 ?_ _|refine Q7 ?_|refine Q2 ?_ _));refine QH (cs:=#[.slice Wr qeP.length WB,.slice Ao9 qhs.length co9,.slice none 0 0,.int .i64 0,.int .i64 0]) ?_ 2 _ rfl;(with_reducible repeat (first|refine Q4 ?_ _|refine Q7 ?_|refine Q2 ?_ _));refine QH (cs:=#[.slice Wr qeP.length WB,.slice none 0 0,.slice none 0 0,.int .i64 0,.int .i64 0]) ?_ 1 _ rfl;(with_reducible repeat (first|refine Q4 ?_ _|refine Q7 ?_|refine Q2 ?_ _));refine QH (cs:=#[.slice none 0 0,.slice none 0 0,.slice none 0 0,.int .i64 0,.int .i64 0]) ?_ 0 _ rfl;(with_reducible repeat (first|refine Q4 ?_ _|refine Q7 ?_|refine Q2 ?_ _));exact KB.out) Try.underlying39 rfl (by kernel_rfl)) rfl ?_
 exact ⟨_,_,_,by first|rfl|(simp [Qx,Qy]<;>rfl)|(simp [*,Qx,Qy]<;>rfl),by (with_reducible repeat (first|apply Kd.R_alloc|apply Kd.R_drewN|apply Kd.R_drew));exact Kd.R_mono (Kd.R_far (p:=⟨GU,4,none⟩) (Kd.R_far (p:=⟨GU,3,none⟩) (Kd.R_far (p:=⟨GU,2,none⟩) (Kd.R_far (p:=⟨GU,1,none⟩) (Kd.R_far (p:=⟨GU,0,none⟩) (Kd.R_types qaF.out KB.out (by decide)) (fun _ hk=>hk.2) (.slice Wr qeP.length WB)) (fun _ hk=>hk.2) (.slice Ao9 qhs.length co9)) (fun _ hk=>hk.2) (.slice Ao8 qkH.length co8)) (fun _ hk=>hk.2) (.int .i64 50)) (fun _ hk=>hk.2) (.int .i64 0)) (fun _ hk=>⟨hk.1.1.2,hk.1.2⟩),by (with_reducible repeat (first|apply Kd.R_alloc|apply Kd.R_drewN|apply Kd.R_drew));exact Kd.R_mono (Kd.R_far (p:=⟨GU,4,none⟩) (Kd.R_far (p:=⟨GU,3,none⟩) (Kd.R_far (p:=⟨GU,2,none⟩) (Kd.R_far (p:=⟨GU,1,none⟩) (Kd.R_far (p:=⟨GU,0,none⟩) (Kd.R_types qfe.out KB.out (by decide)) (fun _ hk=>hk.2) (.slice Wr qeP.length WB)) (fun _ hk=>hk.2) (.slice Ao9 qhs.length co9)) (fun _ hk=>hk.2) (.slice Ao8 qkH.length co8)) (fun _ hk=>hk.2) (.int .i64 50)) (fun _ hk=>hk.2) (.int .i64 0)) (fun _ hk=>⟨hk.1.1.2,hk.1.2⟩),by (with_reducible repeat (first|apply Kd.R_alloc|apply Kd.R_drewN|apply Kd.R_drew));exact Kd.R_mono (Kd.R_far (p:=⟨GU,4,none⟩) (Kd.R_far (p:=⟨GU,3,none⟩) (Kd.R_far (p:=⟨GU,2,none⟩) (Kd.R_far (p:=⟨GU,1,none⟩) (Kd.R_far (p:=⟨GU,0,none⟩) (Kd.R_types qse.out KB.out (by decide)) (fun _ hk=>hk.2) (.slice Wr qeP.length WB)) (fun _ hk=>hk.2) (.slice Ao9 qhs.length co9)) (fun _ hk=>hk.2) (.slice Ao8 qkH.length co8)) (fun _ hk=>hk.2) (.int .i64 50)) (fun _ hk=>hk.2) (.int .i64 0)) (fun _ hk=>⟨hk.1.1.2,hk.1.2⟩),by repeat (first|(with_reducible first|exact HB.out|apply Q3|apply Q1|apply Q6|refine Q5 ?_ qec.out)|exact HB.out)⟩
end
section
attribute [local go_sem] Ys Yu YG YH Yj Yk Yt Yv
def JQ.f  : Option ((List (S39)) × List Int × (List (List (List Int)))):=(Jh.f).bind fun XJ=>((Jz.f).bind fun Uh=>(some ((([(⟨XJ.1,XJ.2.1,XJ.2.2.1,XJ.2.2.2.1,XJ.2.2.2.2⟩:S39),(⟨Uh.1,Uh.2.1,Uh.2.2.1,Uh.2.2.2.1,Uh.2.2.2.2⟩:S39)]:List (S39))),(([40,80]:List Int)),(([(([(([90,80]:List Int)),(([10,10]:List Int))]:List (List Int))),(([(([0,0]:List Int)),(([0,0]:List Int))]:List (List Int)))]:List (List (List Int)))))))
set_option maxHeartbeats 8000000 in
set_option maxRecDepth 100000 in
theorem JQ.calls  (r1:List (S39)) (r2:List Int) (r3:List (List (List Int))) (w:World) (h:JQ.f  = some (r1,r2,r3)) :
  Calls Try.prog 58 #[] w fun e w' => ∃ v0_ v1_ v2_:Value,e = .returned (.agg #[v0_,v1_,v2_])∧Kd.N k39 39 w' w.heap.size (fun k_=>(w.heap.size≤k_)∧some k_≠(v1_:Value).ownBlock∧some k_≠(v2_:Value).ownBlock) v0_ r1∧Kd.R (Kd.int .i64) 3 w' w.heap.size (fun k_=>(w.heap.size≤k_)) v1_ r2∧Kd.N (Kd.slice 37 (Kd.slice 3 (Kd.int .i64))) 63 w' w.heap.size (fun k_=>(w.heap.size≤k_)∧some k_≠(v0_:Value).ownBlock∧some k_≠(v1_:Value).ownBlock) v2_ r3∧Below w.heap.size w w':=by
 have qmS:=Try.underlying47
 have HB:=Q0.mk (Below.refl w.heap.size w)
 have H:((Jh.f).bind fun XJ=>((Jz.f).bind fun Uh=>(some ((([(⟨XJ.1,XJ.2.1,XJ.2.2.1,XJ.2.2.2.1,XJ.2.2.2.2⟩:S39),(⟨Uh.1,Uh.2.1,Uh.2.2.1,Uh.2.2.2.1,Uh.2.2.2.2⟩:S39)]:List (S39))),(([40,80]:List Int)),(([(([(([90,80]:List Int)),(([10,10]:List Int))]:List (List Int))),(([(([0,0]:List Int)),(([0,0]:List Int))]:List (List Int)))]:List (List (List Int))))))))=some (r1,r2,r3):=h
 clear h
 replace H:=Option.bind_eq_some_iff.mp H
 obtain ⟨⟨qgW,qgX,qgY,qgZ,qg0⟩,A10,H⟩:=H
 replace H:((Jz.f).bind fun Uh=>(some ((([(⟨qgW,qgX,qgY,qgZ,qg0⟩:S39),(⟨Uh.1,Uh.2.1,Uh.2.2.1,Uh.2.2.2.1,Uh.2.2.2.2⟩:S39)]:List (S39))),(([40,80]:List Int)),(([(([(([90,80]:List Int)),(([10,10]:List Int))]:List (List Int))),(([(([0,0]:List Int)),(([0,0]:List Int))]:List (List Int)))]:List (List (List Int)))))))=some (r1,r2,r3):=H
 have A1:=Q0.mk A10
 clear A10
 replace H:=Option.bind_eq_some_iff.mp H
 obtain ⟨⟨qiL,qiM,qiN,qiO,qiP⟩,A20,H⟩:=H
 replace H:(some ((([(⟨qgW,qgX,qgY,qgZ,qg0⟩:S39),(⟨qiL,qiM,qiN,qiO,qiP⟩:S39)]:List (S39))),(([40,80]:List Int)),(([(([(([90,80]:List Int)),(([10,10]:List Int))]:List (List Int))),(([(([0,0]:List Int)),(([0,0]:List Int))]:List (List Int)))]:List (List (List Int))))))=some (r1,r2,r3):=H
 have A2:=Q0.mk A20
 clear A20
 obtain ⟨qbd,qh7⟩:∃ y_:List (S39),y_=(([(⟨qgW,qgX,qgY,qgZ,qg0⟩:S39),(⟨qiL,qiM,qiN,qiO,qiP⟩:S39)]:List (S39))):=⟨_,rfl⟩
 replace H:(some (qbd,(([40,80]:List Int)),(([(([(([90,80]:List Int)),(([10,10]:List Int))]:List (List Int))),(([(([0,0]:List Int)),(([0,0]:List Int))]:List (List Int)))]:List (List (List Int))))))=some (r1,r2,r3):=by first|(rw [qh7];with_reducible exact H)|(have H2_:=(Option.bind_some _ _).symm.trans H;rw [qh7];with_reducible exact H2_)|(have H2_:=(Option.bind_some _ _).symm.trans H;with_reducible exact H2_)|with_reducible exact H|(rw [qh7];exact H)|exact H
 have qsn:=Q0.mk qh7
 clear qh7
 obtain ⟨qcM,qh8⟩:∃ y_:List Int,y_=(([40,80]:List Int)):=⟨_,rfl⟩
 replace H:(some (qbd,qcM,(([(([(([90,80]:List Int)),(([10,10]:List Int))]:List (List Int))),(([(([0,0]:List Int)),(([0,0]:List Int))]:List (List Int)))]:List (List (List Int))))))=some (r1,r2,r3):=by first|(rw [qh8];with_reducible exact H)|(have H2_:=(Option.bind_some _ _).symm.trans H;rw [qh8];with_reducible exact H2_)|(have H2_:=(Option.bind_some _ _).symm.trans H;with_reducible exact H2_)|with_reducible exact H|(rw [qh8];exact H)|exact H
 have qso:=Q0.mk qh8
 clear qh8
 obtain ⟨qkI,qh9⟩:∃ y_:List Int,y_=(([90,80]:List Int)):=⟨_,rfl⟩
 replace H:(some (qbd,qcM,(([(([qkI,(([10,10]:List Int))]:List (List Int))),(([(([0,0]:List Int)),(([0,0]:List Int))]:List (List Int)))]:List (List (List Int))))))=some (r1,r2,r3):=by first|(rw [qh9];with_reducible exact H)|(have H2_:=(Option.bind_some _ _).symm.trans H;rw [qh9];with_reducible exact H2_)|(have H2_:=(Option.bind_some _ _).symm.trans H;with_reducible exact H2_)|with_reducible exact H|(rw [qh9];exact H)|exact H
 have qsp:=Q0.mk qh9
 clear qh9
 obtain ⟨qnq,qia⟩:∃ y_:List Int,y_=(([10,10]:List Int)):=⟨_,rfl⟩
 replace H:(some (qbd,qcM,(([(([qkI,qnq]:List (List Int))),(([(([0,0]:List Int)),(([0,0]:List Int))]:List (List Int)))]:List (List (List Int))))))=some (r1,r2,r3):=by first|(rw [qia];with_reducible exact H)|(have H2_:=(Option.bind_some _ _).symm.trans H;rw [qia];with_reducible exact H2_)|(have H2_:=(Option.bind_some _ _).symm.trans H;with_reducible exact H2_)|with_reducible exact H|(rw [qia];exact H)|exact H
 have qsq:=Q0.mk qia
 clear qia
 obtain ⟨qht,qib⟩:∃ y_:List (List Int),y_=(([qkI,qnq]:List (List Int))):=⟨_,rfl⟩
 replace H:(some (qbd,qcM,(([qht,(([(([0,0]:List Int)),(([0,0]:List Int))]:List (List Int)))]:List (List (List Int))))))=some (r1,r2,r3):=by first|(rw [qib];with_reducible exact H)|(have H2_:=(Option.bind_some _ _).symm.trans H;rw [qib];with_reducible exact H2_)|(have H2_:=(Option.bind_some _ _).symm.trans H;with_reducible exact H2_)|with_reducible exact H|(rw [qib];exact H)|exact H
 have qsr:=Q0.mk qib
 clear qib
 obtain ⟨qkJ,qic⟩:∃ y_:List Int,y_=(([0,0]:List Int)):=⟨_,rfl⟩
 replace H:(some (qbd,qcM,(([qht,(([qkJ,(([0,0]:List Int))]:List (List Int)))]:List (List (List Int))))))=some (r1,r2,r3):=by first|(rw [qic];with_reducible exact H)|(have H2_:=(Option.bind_some _ _).symm.trans H;rw [qic];with_reducible exact H2_)|(have H2_:=(Option.bind_some _ _).symm.trans H;with_reducible exact H2_)|with_reducible exact H|(rw [qic];exact H)|exact H
 have qss:=Q0.mk qic
 clear qic
 obtain ⟨qnr,qid⟩:∃ y_:List Int,y_=(([0,0]:List Int)):=⟨_,rfl⟩
 replace H:(some (qbd,qcM,(([qht,(([qkJ,qnr]:List (List Int)))]:List (List (List Int))))))=some (r1,r2,r3):=by first|(rw [qid];with_reducible exact H)|(have H2_:=(Option.bind_some _ _).symm.trans H;rw [qid];with_reducible exact H2_)|(have H2_:=(Option.bind_some _ _).symm.trans H;with_reducible exact H2_)|with_reducible exact H|(rw [qid];exact H)|exact H
 have qst:=Q0.mk qid
 clear qid
 obtain ⟨qns,qie⟩:∃ y_:List (List Int),y_=(([qkJ,qnr]:List (List Int))):=⟨_,rfl⟩
 replace H:(some (qbd,qcM,(([qht,qns]:List (List (List Int))))))=some (r1,r2,r3):=by first|(rw [qie];with_reducible exact H)|(have H2_:=(Option.bind_some _ _).symm.trans H;rw [qie];with_reducible exact H2_)|(have H2_:=(Option.bind_some _ _).symm.trans H;with_reducible exact H2_)|with_reducible exact H|(rw [qie];exact H)|exact H
 have qsu:=Q0.mk qie
 clear qie
 obtain ⟨qpo,qif⟩:∃ y_:List (List (List Int)),y_=(([qht,qns]:List (List (List Int)))):=⟨_,rfl⟩
 replace H:(some (qbd,qcM,qpo))=some (r1,r2,r3):=by first|(rw [qif];with_reducible exact H)|(have H2_:=(Option.bind_some _ _).symm.trans H;rw [qif];with_reducible exact H2_)|(have H2_:=(Option.bind_some _ _).symm.trans H;with_reducible exact H2_)|with_reducible exact H|(rw [qif];exact H)|exact H
 have qsv:=Q0.mk qif
 clear qif
 simp only [Option.some.injEq,Prod.mk.injEq] at H
 obtain ⟨rfl,rfl,rfl⟩:=H
 go_enter Try.func58,Try.ntmps58
 go_wp2_with (first|((with_reducible refine QZ (N:=0) rfl ?_);refine Yp ?hg (N:=0) ?hd (cs:=#[.slice none 0 0,.slice none 0 0,.slice none 0 0]) (t:=47) ?hr ?_;(case hd=>rfl);(case hg=>rfl);(case hr=>first|(go_simp;done)|(go_simp;rfl));intro Zc hg w3 hbox hb;have n0_:=Q0.mk (Qk (by repeat (first|(with_reducible first|exact HB.out|apply Q3|apply Q1|apply Q6)|exact HB.out)) hb);have n1_:=Q0.mk (hbox);have n2_:=Q0.mk ((by rw [hg];exact (Qi (by repeat (first|(with_reducible first|exact HB.out|apply Q3|apply Q1|apply Q6)|exact HB.out))):w.heap.size≤Zc));have n3_:=n2_;clear HB;have HB:=n0_;have Zi:=n1_;have qGo:=n2_;have Jm:=n3_;clear n0_ n1_ n2_ n3_ hb hbox hg)|((with_reducible refine QD (f:=57) rfl ?_);refine YC (some 1) rfl rfl Try.func57 (by kernel_rfl) rfl #[] rfl (by (try simp only [List.map_toArray,List.map_cons,List.map_nil]);first|done|rfl|(simp only [List.length_drop,List.length_take];rfl)) ?_;(with_reducible refine (Jh.calls  qgW qgX qgY qgZ qg0 _ A1.out).mono ?_);rintro e w4 ⟨qJL,qJM,qJN,rfl,ho0,ho1,ho2,hb⟩;refine ⟨_,rfl,?_⟩;have n0_:=Q0.mk (Kd.R_lower (Kd.R_newM (M:=fun k_=>(w.heap.size≤k_)) ho0 (Qi (by repeat (first|(with_reducible first|exact HB.out|apply Q3|apply Q1|apply Q6|refine Q5 ?_ Jm.out)|exact HB.out))) (fun k_ h_=>h_)) (Qi (by repeat (first|(with_reducible first|exact HB.out|apply Q3|apply Q1|apply Q6|refine Q5 ?_ Jm.out)|exact HB.out))));have n1_:=Q0.mk (Kd.R_lower (Kd.R_newM (M:=fun k_=>(w.heap.size≤k_)) ho1 (Qi (by repeat (first|(with_reducible first|exact HB.out|apply Q3|apply Q1|apply Q6|refine Q5 ?_ Jm.out)|exact HB.out))) (fun k_ h_=>h_)) (Qi (by repeat (first|(with_reducible first|exact HB.out|apply Q3|apply Q1|apply Q6|refine Q5 ?_ Jm.out)|exact HB.out))));have n2_:=Q0.mk (Kd.R_lower (Kd.R_newM (M:=fun k_=>(w.heap.size≤k_)) ho2 (Qi (by repeat (first|(with_reducible first|exact HB.out|apply Q3|apply Q1|apply Q6|refine Q5 ?_ Jm.out)|exact HB.out))) (fun k_ h_=>h_)) (Qi (by repeat (first|(with_reducible first|exact HB.out|apply Q3|apply Q1|apply Q6|refine Q5 ?_ Jm.out)|exact HB.out))));have n3_:=Q0.mk (Qf (g:=Zc) (by (with_reducible repeat (first|refine Q4 ?_ _|refine Q7 ?_|refine Q2 ?_ _));exact Zi.out) hb);have n4_:=Q0.mk (Qk (by repeat (first|(with_reducible first|exact HB.out|apply Q3|apply Q1|apply Q6|refine Q5 ?_ Jm.out)|exact HB.out)) hb);clear Zi HB;have qaG:=n0_;have qaH:=n1_;have qaI:=n2_;have Zi:=n3_;have HB:=n4_;clear n0_ n1_ n2_ n3_ n4_;(try clear hb);(try clear hb2);(try clear hk);(try clear hi);(try clear ho0);(try clear ho1);(try clear ho2))|((with_reducible refine QD (f:=94) rfl ?_);refine YC (some 2) rfl rfl Try.func94 (by kernel_rfl) rfl #[] rfl (by (try simp only [List.map_toArray,List.map_cons,List.map_nil]);first|done|rfl|(simp only [List.length_drop,List.length_take];rfl)) ?_;(with_reducible refine (Jz.calls  qiL qiM qiN qiO qiP _ A2.out).mono ?_);rintro e w5 ⟨qJO,qJP,qJQ,rfl,ho0,ho1,ho2,hb⟩;refine ⟨_,rfl,?_⟩;have n0_:=Q0.mk (Kd.R_mono (Kd.R_told (Kd.R_told (Kd.R_told (Kd.R_old (by (with_reducible repeat (first|apply Kd.R_alloc|apply Kd.R_drewN|apply Kd.R_drew));exact qaG.out) hb) (Kd.R_base ho0)) (Kd.R_base ho1)) (Kd.R_base ho2)) (fun _ h_=>h_.1));have n1_:=Q0.mk (Kd.R_mono (Kd.R_told (Kd.R_told (Kd.R_told (Kd.R_old (by (with_reducible repeat (first|apply Kd.R_alloc|apply Kd.R_drewN|apply Kd.R_drew));exact qaH.out) hb) (Kd.R_base ho0)) (Kd.R_base ho1)) (Kd.R_base ho2)) (fun _ h_=>h_.1));have n2_:=Q0.mk (Kd.R_mono (Kd.R_told (Kd.R_told (Kd.R_told (Kd.R_old (by (with_reducible repeat (first|apply Kd.R_alloc|apply Kd.R_drewN|apply Kd.R_drew));exact qaI.out) hb) (Kd.R_base ho0)) (Kd.R_base ho1)) (Kd.R_base ho2)) (fun _ h_=>h_.1));have n3_:=Q0.mk (Kd.R_lower (Kd.R_new' (Kd.R_new' (Kd.R_new' (Kd.R_newM (M:=fun k_=>(w.heap.size≤k_)) ho0 (Qi (by repeat (first|(with_reducible first|exact HB.out|apply Q3|apply Q1|apply Q6|refine Q5 ?_ Jm.out)|exact HB.out))) (fun k_ h_=>h_)) (Kd.R_lt (by (with_reducible repeat (first|apply Kd.R_alloc|apply Kd.R_drewN|apply Kd.R_drew));exact qaG.out))) (Kd.R_lt (by (with_reducible repeat (first|apply Kd.R_alloc|apply Kd.R_drewN|apply Kd.R_drew));exact qaH.out))) (Kd.R_lt (by (with_reducible repeat (first|apply Kd.R_alloc|apply Kd.R_drewN|apply Kd.R_drew));exact qaI.out))) (Qi (by repeat (first|(with_reducible first|exact HB.out|apply Q3|apply Q1|apply Q6|refine Q5 ?_ Jm.out)|exact HB.out))));have n4_:=Q0.mk (Kd.R_lower (Kd.R_new' (Kd.R_new' (Kd.R_new' (Kd.R_newM (M:=fun k_=>(w.heap.size≤k_)) ho1 (Qi (by repeat (first|(with_reducible first|exact HB.out|apply Q3|apply Q1|apply Q6|refine Q5 ?_ Jm.out)|exact HB.out))) (fun k_ h_=>h_)) (Kd.R_lt (by (with_reducible repeat (first|apply Kd.R_alloc|apply Kd.R_drewN|apply Kd.R_drew));exact qaG.out))) (Kd.R_lt (by (with_reducible repeat (first|apply Kd.R_alloc|apply Kd.R_drewN|apply Kd.R_drew));exact qaH.out))) (Kd.R_lt (by (with_reducible repeat (first|apply Kd.R_alloc|apply Kd.R_drewN|apply Kd.R_drew));exact qaI.out))) (Qi (by repeat (first|(with_reducible first|exact HB.out|apply Q3|apply Q1|apply Q6|refine Q5 ?_ Jm.out)|exact HB.out))));have n5_:=Q0.mk (Kd.R_lower (Kd.R_new' (Kd.R_new' (Kd.R_new' (Kd.R_newM (M:=fun k_=>(w.heap.size≤k_)) ho2 (Qi (by repeat (first|(with_reducible first|exact HB.out|apply Q3|apply Q1|apply Q6|refine Q5 ?_ Jm.out)|exact HB.out))) (fun k_ h_=>h_)) (Kd.R_lt (by (with_reducible repeat (first|apply Kd.R_alloc|apply Kd.R_drewN|apply Kd.R_drew));exact qaG.out))) (Kd.R_lt (by (with_reducible repeat (first|apply Kd.R_alloc|apply Kd.R_drewN|apply Kd.R_drew));exact qaH.out))) (Kd.R_lt (by (with_reducible repeat (first|apply Kd.R_alloc|apply Kd.R_drewN|apply Kd.R_drew));exact qaI.out))) (Qi (by repeat (first|(with_reducible first|exact HB.out|apply Q3|apply Q1|apply Q6|refine Q5 ?_ Jm.out)|exact HB.out))));have n6_:=Q0.mk (Qf (g:=Zc) (by (with_reducible repeat (first|refine Q4 ?_ _|refine Q7 ?_|refine Q2 ?_ _));exact Zi.out) hb);have n7_:=Q0.mk (Qk (by repeat (first|(with_reducible first|exact HB.out|apply Q3|apply Q1|apply Q6|refine Q5 ?_ Jm.out)|exact HB.out)) hb);clear qaG qaH qaI Zi HB;have qaG:=n0_;have qaH:=n1_;have qaI:=n2_;have qkP:=n3_;have qkQ:=n4_;have qkR:=n5_;have Zi:=n6_;have HB:=n7_;clear n0_ n1_ n2_ n3_ n4_ n5_ n6_ n7_;(try clear hb);(try clear hb2);(try clear hk);(try clear hi);(try clear ho0);(try clear ho1);(try clear ho2);obtain ⟨Ao6,co6,eo6⟩:=Kd.R_slice qaG.out;subst eo6;obtain ⟨Ao7,co7,eo7⟩:=Kd.R_slice qaH.out;subst eo7;obtain ⟨Ao8,co8,eo8⟩:=Kd.R_slice qaI.out;subst eo8;obtain ⟨Ao9,co9,eo9⟩:=Kd.R_slice qkP.out;subst eo9;obtain ⟨Wr,WB,qof⟩:=Kd.R_slice qkQ.out;subst qof;obtain ⟨qvj,qv9,qE7⟩:=Kd.R_slice qkR.out;subst qE7)|((with_reducible refine QZ (N:=3) rfl ?_);refine Kd.N_lit k39 _ 39 ?hg (N':=3) ?hd (xs:=([(⟨qgW,qgX,qgY,qgZ,qg0⟩:S39),(⟨qiL,qiM,qiN,qiO,qiP⟩:S39)]:List (S39))) (inner:=[.slice Ao6 qgW.length co6,.slice Ao7 qgX.length co7,.slice Ao8 qgY.length co8,.int .i64 qgZ,.int .i64 qg0,.slice Ao9 qiL.length co9,.slice Wr qiM.length WB,.slice qvj qiN.length qv9,.int .i64 qiO,.int .i64 qiP]) (ok:=(fun k_=>(w.heap.size≤k_)∧k_≠Zc)) (okp:=(fun k_=>(w.heap.size≤k_)∧k_≠Zc)) ?hr ?hp (fun _ hk=>hk) ((show ∀ k_,w5.heap.size≤k_→(fun k_=>(w.heap.size≤k_)∧k_≠Zc) k_ from fun k_ hk=>⟨(Nat.le_trans (Qi (by repeat (first|(with_reducible first|exact HB.out|apply Q3|apply Q1|apply Q6|refine Q5 ?_ Jm.out)|exact HB.out))) hk),Kd.freshB (g:=Zc) (by (with_reducible repeat (first|refine Q4 ?_ _|refine Q7 ?_|refine Q2 ?_ _));exact Zi.out) k_ hk⟩) _ (Nat.le_refl _)) (Below.refl _ _) (Nat.le_refl _) (by simp) ?_;(case hd=>rfl);(case hg=>rfl);(case hr=>first|(go_simp;done)|(go_simp;rfl));(case hp=>exact (Reps.c5 (show Kd.FK k39 _ _ (⟨qgW,qgX,qgY,qgZ,qg0⟩:S39) [.slice Ao6 qgW.length co6,.slice Ao7 qgX.length co7,.slice Ao8 qgY.length co8,.int .i64 qgZ,.int .i64 qg0] from (qma _ _ (⟨qgW,qgX,qgY,qgZ,qg0⟩:S39) (Kd.R_reads' (Kd.R_mono (ok':=(fun k_=>(w.heap.size≤k_)∧k_≠Zc)) (Kd.R_types (qaG.out) Zi.out (by decide)) (fun k_ hk=>⟨hk.1.1.1.1.1,hk.2⟩))).2.1 (Kd.R_F (Kd.R_mono (ok':=(fun k_=>(w.heap.size≤k_)∧k_≠Zc)) (Kd.R_types (qaG.out) Zi.out (by decide)) (fun k_ hk=>⟨hk.1.1.1.1.1,hk.2⟩))) (Kd.R_reads' (Kd.R_mono (ok':=(fun k_=>(w.heap.size≤k_)∧k_≠Zc)) (Kd.R_types (qaH.out) Zi.out (by decide)) (fun k_ hk=>⟨hk.1.1.1.1.1,hk.2⟩))).2.1 (Kd.R_F (Kd.R_mono (ok':=(fun k_=>(w.heap.size≤k_)∧k_≠Zc)) (Kd.R_types (qaH.out) Zi.out (by decide)) (fun k_ hk=>⟨hk.1.1.1.1.1,hk.2⟩))) (Kd.R_reads' (Kd.R_mono (ok':=(fun k_=>(w.heap.size≤k_)∧k_≠Zc)) (Kd.R_types (qaI.out) Zi.out (by decide)) (fun k_ hk=>⟨hk.1.1.1.1.1,hk.2⟩))).2.1 (Kd.R_F (Kd.R_mono (ok':=(fun k_=>(w.heap.size≤k_)∧k_≠Zc)) (Kd.R_types (qaI.out) Zi.out (by decide)) (fun k_ hk=>⟨hk.1.1.1.1.1,hk.2⟩))))) (Reps.c5 (show Kd.FK k39 _ _ (⟨qiL,qiM,qiN,qiO,qiP⟩:S39) [.slice Ao9 qiL.length co9,.slice Wr qiM.length WB,.slice qvj qiN.length qv9,.int .i64 qiO,.int .i64 qiP] from (qma _ _ (⟨qiL,qiM,qiN,qiO,qiP⟩:S39) (Kd.R_reads' (Kd.R_mono (ok':=(fun k_=>(w.heap.size≤k_)∧k_≠Zc)) (Kd.R_types (qkP.out) Zi.out (by decide)) (fun k_ hk=>⟨hk.1.1.1.1.1,hk.2⟩))).2.1 (Kd.R_F (Kd.R_mono (ok':=(fun k_=>(w.heap.size≤k_)∧k_≠Zc)) (Kd.R_types (qkP.out) Zi.out (by decide)) (fun k_ hk=>⟨hk.1.1.1.1.1,hk.2⟩))) (Kd.R_reads' (Kd.R_mono (ok':=(fun k_=>(w.heap.size≤k_)∧k_≠Zc)) (Kd.R_types (qkQ.out) Zi.out (by decide)) (fun k_ hk=>⟨hk.1.1.1.1.1,hk.2⟩))).2.1 (Kd.R_F (Kd.R_mono (ok':=(fun k_=>(w.heap.size≤k_)∧k_≠Zc)) (Kd.R_types (qkQ.out) Zi.out (by decide)) (fun k_ hk=>⟨hk.1.1.1.1.1,hk.2⟩))) (Kd.R_reads' (Kd.R_mono (ok':=(fun k_=>(w.heap.size≤k_)∧k_≠Zc)) (Kd.R_types (qkR.out) Zi.out (by decide)) (fun k_ hk=>⟨hk.1.1.1.1.1,hk.2⟩))).2.1 (Kd.R_F (Kd.R_mono (ok':=(fun k_=>(w.heap.size≤k_)∧k_≠Zc)) (Kd.R_types (qkR.out) Zi.out (by decide)) (fun k_ hk=>⟨hk.1.1.1.1.1,hk.2⟩))))) (Reps.none _ _))));intro Wn w12 qoC hb hg_ hnew_;clear hg_ hnew_;(first|rw [← qsn.out] at qoC|(simp only [Int.reduceToNat] at qoC;rw [← qsn.out] at qoC));have n0_:=Q0.mk (Kd.N_lower qoC (Qi (by repeat (first|(with_reducible first|exact HB.out|apply Q3|apply Q1|apply Q6|refine Q5 ?_ Jm.out)|exact HB.out))));have n1_:=Q0.mk (Qf (g:=Zc) (by (with_reducible repeat (first|refine Q4 ?_ _|refine Q7 ?_|refine Q2 ?_ _));exact Zi.out) hb);have n2_:=Q0.mk (Qk (by repeat (first|(with_reducible first|exact HB.out|apply Q3|apply Q1|apply Q6|refine Q5 ?_ Jm.out)|exact HB.out)) hb);clear Zi HB qaG qaH qaI qkP qkQ qkR;have JF:=n0_;have Zi:=n1_;have HB:=n2_;clear n0_ n1_ n2_ hb qoC)|((with_reducible refine QZ (N:=4) rfl ?_);refine Kd.R_lit (Kd.int .i64) _ 3 ?hg (N:=4) ?hd (xs:=([40,80]:List Int)) (inner:=[.int .i64 40,.int .i64 80]) (ok:=fun _=>True) (okp:=fun _=>True) ?hr ?hp (fun _ hk=>hk) trivial (Below.refl _ _) (Nat.le_refl _) (by simp) ?_;(case hd=>rfl);(case hg=>rfl);(case hr=>first|(go_simp;done)|(go_simp;rfl));(case hp=>exact (Reps.one (show Kd.M (Kd.int .i64) _ _ _ 40 [.int .i64 40] from rfl) (Reps.one (show Kd.M (Kd.int .i64) _ _ _ 80 [.int .i64 80] from rfl) (Reps.none _ _))));intro Wo w14 qmO hb hg_ hnew_;clear hg_ hnew_;(first|rw [← qso.out] at qmO|(simp only [Int.reduceToNat] at qmO;rw [← qso.out] at qmO));have n0_:=Q0.mk (Kd.N_elder' (by (with_reducible repeat (first|apply Kd.N_alloc|apply Kd.N_drewN|apply Kd.N_drew));exact JF.out) (Kd.R_base qmO) hb);have n1_:=Q0.mk (Kd.R_lower (Kd.R_newM (M:=fun k_=>(w.heap.size≤k_)) qmO (Qi (by repeat (first|(with_reducible first|exact HB.out|apply Q3|apply Q1|apply Q6|refine Q5 ?_ Jm.out)|exact HB.out))) (fun k_ h_=>h_)) (Qi (by repeat (first|(with_reducible first|exact HB.out|apply Q3|apply Q1|apply Q6|refine Q5 ?_ Jm.out)|exact HB.out))));have n2_:=Q0.mk (Qf (g:=Zc) (by (with_reducible repeat (first|refine Q4 ?_ _|refine Q7 ?_|refine Q2 ?_ _));exact Zi.out) hb);have n3_:=Q0.mk (Qk (by repeat (first|(with_reducible first|exact HB.out|apply Q3|apply Q1|apply Q6|refine Q5 ?_ Jm.out)|exact HB.out)) hb);clear JF Zi HB;have JF:=n0_;have Gj:=n1_;have Zi:=n2_;have HB:=n3_;clear n0_ n1_ n2_ n3_ hb qmO)|((with_reducible refine QZ (N:=5) rfl ?_);refine Kd.R_lit (Kd.int .i64) _ 3 ?hg (N:=5) ?hd (xs:=([90,80]:List Int)) (inner:=[.int .i64 90,.int .i64 80]) (ok:=fun _=>True) (okp:=fun _=>True) ?hr ?hp (fun _ hk=>hk) trivial (Below.refl _ _) (Nat.le_refl _) (by simp) ?_;(case hd=>rfl);(case hg=>rfl);(case hr=>first|(go_simp;done)|(go_simp;rfl));(case hp=>exact (Reps.one (show Kd.M (Kd.int .i64) _ _ _ 90 [.int .i64 90] from rfl) (Reps.one (show Kd.M (Kd.int .i64) _ _ _ 80 [.int .i64 80] from rfl) (Reps.none _ _))));intro qJR w16 qjE hb hg_ hnew_;clear hg_ hnew_;(first|rw [← qsp.out] at qjE|(simp only [Int.reduceToNat] at qjE;rw [← qsp.out] at qjE));have n0_:=Q0.mk (Kd.N_elder' (by (with_reducible repeat (first|apply Kd.N_alloc|apply Kd.N_drewN|apply Kd.N_drew));exact JF.out) (Kd.R_base qjE) hb);have n1_:=Q0.mk (Kd.R_elder' (by (with_reducible repeat (first|apply Kd.R_alloc|apply Kd.R_drewN|apply Kd.R_drew));exact Gj.out) (Kd.R_base qjE) hb);have n2_:=Q0.mk (Kd.R_lower (Kd.R_new' (Kd.R_newM (M:=fun k_=>(w.heap.size≤k_)) qjE (Qi (by repeat (first|(with_reducible first|exact HB.out|apply Q3|apply Q1|apply Q6|refine Q5 ?_ Jm.out)|exact HB.out))) (fun k_ h_=>h_)) (Kd.R_lt (by (with_reducible repeat (first|apply Kd.R_alloc|apply Kd.R_drewN|apply Kd.R_drew));exact Gj.out))) (Qi (by repeat (first|(with_reducible first|exact HB.out|apply Q3|apply Q1|apply Q6|refine Q5 ?_ Jm.out)|exact HB.out))));have n3_:=Q0.mk (Qf (g:=Zc) (by (with_reducible repeat (first|refine Q4 ?_ _|refine Q7 ?_|refine Q2 ?_ _));exact Zi.out) hb);have n4_:=Q0.mk (Qk (by repeat (first|(with_reducible first|exact HB.out|apply Q3|apply Q1|apply Q6|refine Q5 ?_ Jm.out)|exact HB.out)) hb);clear JF Gj Zi HB;have JF:=n0_;have Gj:=n1_;have qcP:=n2_;have Zi:=n3_;have HB:=n4_;clear n0_ n1_ n2_ n3_ n4_ hb qjE)|((with_reducible refine QZ (N:=6) rfl ?_);refine Kd.R_lit (Kd.int .i64) _ 3 ?hg (N:=6) ?hd (xs:=([10,10]:List Int)) (inner:=[.int .i64 10,.int .i64 10]) (ok:=fun _=>True) (okp:=fun _=>True) ?hr ?hp (fun _ hk=>hk) trivial (Below.refl _ _) (Nat.le_refl _) (by simp) ?_;(case hd=>rfl);(case hg=>rfl);(case hr=>first|(go_simp;done)|(go_simp;rfl));(case hp=>exact (Reps.one (show Kd.M (Kd.int .i64) _ _ _ 10 [.int .i64 10] from rfl) (Reps.one (show Kd.M (Kd.int .i64) _ _ _ 10 [.int .i64 10] from rfl) (Reps.none _ _))));intro qJS w18 qhX hb hg_ hnew_;clear hg_ hnew_;(first|rw [← qsq.out] at qhX|(simp only [Int.reduceToNat] at qhX;rw [← qsq.out] at qhX));have n0_:=Q0.mk (Kd.N_elder' (by (with_reducible repeat (first|apply Kd.N_alloc|apply Kd.N_drewN|apply Kd.N_drew));exact JF.out) (Kd.R_base qhX) hb);have n1_:=Q0.mk (Kd.R_elder' (by (with_reducible repeat (first|apply Kd.R_alloc|apply Kd.R_drewN|apply Kd.R_drew));exact Gj.out) (Kd.R_base qhX) hb);have n2_:=Q0.mk (Kd.R_elder' (by (with_reducible repeat (first|apply Kd.R_alloc|apply Kd.R_drewN|apply Kd.R_drew));exact qcP.out) (Kd.R_base qhX) hb);have n3_:=Q0.mk (Kd.R_lower (Kd.R_new' (Kd.R_new' (Kd.R_newM (M:=fun k_=>(w.heap.size≤k_)) qhX (Qi (by repeat (first|(with_reducible first|exact HB.out|apply Q3|apply Q1|apply Q6|refine Q5 ?_ Jm.out)|exact HB.out))) (fun k_ h_=>h_)) (Kd.R_lt (by (with_reducible repeat (first|apply Kd.R_alloc|apply Kd.R_drewN|apply Kd.R_drew));exact Gj.out))) (Kd.R_lt (by (with_reducible repeat (first|apply Kd.R_alloc|apply Kd.R_drewN|apply Kd.R_drew));exact qcP.out))) (Qi (by repeat (first|(with_reducible first|exact HB.out|apply Q3|apply Q1|apply Q6|refine Q5 ?_ Jm.out)|exact HB.out))));have n4_:=Q0.mk (Qf (g:=Zc) (by (with_reducible repeat (first|refine Q4 ?_ _|refine Q7 ?_|refine Q2 ?_ _));exact Zi.out) hb);have n5_:=Q0.mk (Qk (by repeat (first|(with_reducible first|exact HB.out|apply Q3|apply Q1|apply Q6|refine Q5 ?_ Jm.out)|exact HB.out)) hb);clear JF Gj qcP Zi HB;have JF:=n0_;have Gj:=n1_;have qcP:=n2_;have qkS:=n3_;have Zi:=n4_;have HB:=n5_;clear n0_ n1_ n2_ n3_ n4_ n5_ hb qhX;obtain ⟨qvm,qwc,qFa⟩:=Kd.R_slice qcP.out;subst qFa;obtain ⟨qvn,qwd,qFb⟩:=Kd.R_slice qkS.out;subst qFb)|((with_reducible refine QZ (N:=7) rfl ?_);refine Kd.N_lit (Kd.slice 3 (Kd.int .i64)) _ 37 ?hg (N':=7) ?hd (xs:=([qkI,qnq]:List (List Int))) (inner:=[.slice qvm qkI.length qwc,.slice qvn qnq.length qwd]) (ok:=(fun k_=>(w.heap.size≤k_)∧some k_≠(Wn:Value).ownBlock∧some k_≠(Wo:Value).ownBlock∧k_≠Zc)) (okp:=(fun k_=>(w.heap.size≤k_)∧some k_≠(Wn:Value).ownBlock∧some k_≠(Wo:Value).ownBlock∧k_≠Zc)) ?hr ?hp (fun _ hk=>hk) ((show ∀ k_,w18.heap.size≤k_→(fun k_=>(w.heap.size≤k_)∧some k_≠(Wn:Value).ownBlock∧some k_≠(Wo:Value).ownBlock∧k_≠Zc) k_ from fun k_ hk=>⟨(Nat.le_trans (Qi (by repeat (first|(with_reducible first|exact HB.out|apply Q3|apply Q1|apply Q6|refine Q5 ?_ Jm.out)|exact HB.out))) hk),Kd.fresh' (Kd.N_lt (by (with_reducible repeat (first|apply Kd.N_alloc|apply Kd.N_drewN|apply Kd.N_drew));exact JF.out)) k_ hk,Kd.fresh' (Kd.R_lt (by (with_reducible repeat (first|apply Kd.R_alloc|apply Kd.R_drewN|apply Kd.R_drew));exact Gj.out)) k_ hk,Kd.freshB (g:=Zc) (by (with_reducible repeat (first|refine Q4 ?_ _|refine Q7 ?_|refine Q2 ?_ _));exact Zi.out) k_ hk⟩) _ (Nat.le_refl _)) (Below.refl _ _) (Nat.le_refl _) (by simp) ?_;(case hd=>rfl);(case hg=>rfl);(case hr=>first|(go_simp;done)|(go_simp;rfl));(case hp=>exact (Reps.one (show Kd.FK (Kd.slice 3 (Kd.int .i64)) _ _ qkI [.slice qvm qkI.length qwc] from (Kd.FK_slice_mk (Kd.R_reads' (Kd.R_mono (ok':=(fun k_=>(w.heap.size≤k_)∧some k_≠(Wn:Value).ownBlock∧some k_≠(Wo:Value).ownBlock∧k_≠Zc)) (Kd.R_types (Kd.R_apart' (qcP.out) (Kd.N_typed JF.out) (by decide)) Zi.out (by decide)) (fun k_ hk=>⟨hk.1.1.1.1.1,⟨hk.1.2,⟨hk.1.1.1.2,hk.2⟩⟩⟩))).2.1 (Kd.R_F (Kd.R_mono (ok':=(fun k_=>(w.heap.size≤k_)∧some k_≠(Wn:Value).ownBlock∧some k_≠(Wo:Value).ownBlock∧k_≠Zc)) (Kd.R_types (Kd.R_apart' (qcP.out) (Kd.N_typed JF.out) (by decide)) Zi.out (by decide)) (fun k_ hk=>⟨hk.1.1.1.1.1,⟨hk.1.2,⟨hk.1.1.1.2,hk.2⟩⟩⟩))))) (Reps.one (show Kd.FK (Kd.slice 3 (Kd.int .i64)) _ _ qnq [.slice qvn qnq.length qwd] from (Kd.FK_slice_mk (Kd.R_reads' (Kd.R_mono (ok':=(fun k_=>(w.heap.size≤k_)∧some k_≠(Wn:Value).ownBlock∧some k_≠(Wo:Value).ownBlock∧k_≠Zc)) (Kd.R_types (Kd.R_apart' (qkS.out) (Kd.N_typed JF.out) (by decide)) Zi.out (by decide)) (fun k_ hk=>⟨hk.1.1.1.1.1,⟨hk.1.2,⟨hk.1.1.1.2,hk.2⟩⟩⟩))).2.1 (Kd.R_F (Kd.R_mono (ok':=(fun k_=>(w.heap.size≤k_)∧some k_≠(Wn:Value).ownBlock∧some k_≠(Wo:Value).ownBlock∧k_≠Zc)) (Kd.R_types (Kd.R_apart' (qkS.out) (Kd.N_typed JF.out) (by decide)) Zi.out (by decide)) (fun k_ hk=>⟨hk.1.1.1.1.1,⟨hk.1.2,⟨hk.1.1.1.2,hk.2⟩⟩⟩))))) (Reps.none _ _))));intro qkz w22 qmP hb hg_ hnew_;clear hg_ hnew_;(first|rw [← qsr.out] at qmP|(simp only [Int.reduceToNat] at qmP;rw [← qsr.out] at qmP));have n0_:=Q0.mk (Kd.N_elder' (by (with_reducible repeat (first|apply Kd.N_alloc|apply Kd.N_drewN|apply Kd.N_drew));exact JF.out) (Kd.N_base qmP) hb);have n1_:=Q0.mk (Kd.R_below (by (with_reducible repeat (first|apply Kd.R_alloc|apply Kd.R_drewN|apply Kd.R_drew));exact Gj.out) hb);have n2_:=Q0.mk (Kd.N_lower qmP (Qi (by repeat (first|(with_reducible first|exact HB.out|apply Q3|apply Q1|apply Q6|refine Q5 ?_ Jm.out)|exact HB.out))));have n3_:=Q0.mk (Qf (g:=Zc) (by (with_reducible repeat (first|refine Q4 ?_ _|refine Q7 ?_|refine Q2 ?_ _));exact Zi.out) hb);have n4_:=Q0.mk (Qk (by repeat (first|(with_reducible first|exact HB.out|apply Q3|apply Q1|apply Q6|refine Q5 ?_ Jm.out)|exact HB.out)) hb);clear JF Gj Zi HB qcP qkS;have JF:=n0_;have Gj:=n1_;have OD:=n2_;have Zi:=n3_;have HB:=n4_;clear n0_ n1_ n2_ n3_ n4_ hb qmP)|((with_reducible refine QZ (N:=8) rfl ?_);refine Kd.R_lit (Kd.int .i64) _ 3 ?hg (N:=8) ?hd (xs:=([0,0]:List Int)) (inner:=[.int .i64 0,.int .i64 0]) (ok:=fun _=>True) (okp:=fun _=>True) ?hr ?hp (fun _ hk=>hk) trivial (Below.refl _ _) (Nat.le_refl _) (by simp) ?_;(case hd=>rfl);(case hg=>rfl);(case hr=>first|(go_simp;done)|(go_simp;rfl));(case hp=>exact (Reps.one (show Kd.M (Kd.int .i64) _ _ _ 0 [.int .i64 0] from rfl) (Reps.one (show Kd.M (Kd.int .i64) _ _ _ 0 [.int .i64 0] from rfl) (Reps.none _ _))));intro qJT w24 qhY hb hg_ hnew_;clear hg_ hnew_;(first|rw [← qss.out] at qhY|(simp only [Int.reduceToNat] at qhY;rw [← qss.out] at qhY));have n0_:=Q0.mk (Kd.N_elder' (by (with_reducible repeat (first|apply Kd.N_alloc|apply Kd.N_drewN|apply Kd.N_drew));exact JF.out) (Kd.R_base qhY) hb);have n1_:=Q0.mk (Kd.R_elder' (by (with_reducible repeat (first|apply Kd.R_alloc|apply Kd.R_drewN|apply Kd.R_drew));exact Gj.out) (Kd.R_base qhY) hb);have n2_:=Q0.mk (Kd.N_elder' (by (with_reducible repeat (first|apply Kd.N_alloc|apply Kd.N_drewN|apply Kd.N_drew));exact OD.out) (Kd.R_base qhY) hb);have n3_:=Q0.mk (Kd.R_lower (Kd.R_new' (Kd.R_newM (M:=fun k_=>(w.heap.size≤k_)) qhY (Qi (by repeat (first|(with_reducible first|exact HB.out|apply Q3|apply Q1|apply Q6|refine Q5 ?_ Jm.out)|exact HB.out))) (fun k_ h_=>h_)) (Kd.R_lt (by (with_reducible repeat (first|apply Kd.R_alloc|apply Kd.R_drewN|apply Kd.R_drew));exact Gj.out))) (Qi (by repeat (first|(with_reducible first|exact HB.out|apply Q3|apply Q1|apply Q6|refine Q5 ?_ Jm.out)|exact HB.out))));have n4_:=Q0.mk (Qf (g:=Zc) (by (with_reducible repeat (first|refine Q4 ?_ _|refine Q7 ?_|refine Q2 ?_ _));exact Zi.out) hb);have n5_:=Q0.mk (Qk (by repeat (first|(with_reducible first|exact HB.out|apply Q3|apply Q1|apply Q6|refine Q5 ?_ Jm.out)|exact HB.out)) hb);clear JF Gj OD Zi HB;have JF:=n0_;have Gj:=n1_;have OD:=n2_;have qcQ:=n3_;have Zi:=n4_;have HB:=n5_;clear n0_ n1_ n2_ n3_ n4_ n5_ hb qhY)|((with_reducible refine QZ (N:=9) rfl ?_);refine Kd.R_lit (Kd.int .i64) _ 3 ?hg (N:=9) ?hd (xs:=([0,0]:List Int)) (inner:=[.int .i64 0,.int .i64 0]) (ok:=fun _=>True) (okp:=fun _=>True) ?hr ?hp (fun _ hk=>hk) trivial (Below.refl _ _) (Nat.le_refl _) (by simp) ?_;(case hd=>rfl);(case hg=>rfl);(case hr=>first|(go_simp;done)|(go_simp;rfl));(case hp=>exact (Reps.one (show Kd.M (Kd.int .i64) _ _ _ 0 [.int .i64 0] from rfl) (Reps.one (show Kd.M (Kd.int .i64) _ _ _ 0 [.int .i64 0] from rfl) (Reps.none _ _))));intro qJU w26 qgF hb hg_ hnew_;clear hg_ hnew_;(first|rw [← qst.out] at qgF|(simp only [Int.reduceToNat] at qgF;rw [← qst.out] at qgF));have n0_:=Q0.mk (Kd.N_elder' (by (with_reducible repeat (first|apply Kd.N_alloc|apply Kd.N_drewN|apply Kd.N_drew));exact JF.out) (Kd.R_base qgF) hb);have n1_:=Q0.mk (Kd.R_elder' (by (with_reducible repeat (first|apply Kd.R_alloc|apply Kd.R_drewN|apply Kd.R_drew));exact Gj.out) (Kd.R_base qgF) hb);have n2_:=Q0.mk (Kd.N_elder' (by (with_reducible repeat (first|apply Kd.N_alloc|apply Kd.N_drewN|apply Kd.N_drew));exact OD.out) (Kd.R_base qgF) hb);have n3_:=Q0.mk (Kd.R_elder' (by (with_reducible repeat (first|apply Kd.R_alloc|apply Kd.R_drewN|apply Kd.R_drew));exact qcQ.out) (Kd.R_base qgF) hb);have n4_:=Q0.mk (Kd.R_lower (Kd.R_new' (Kd.R_new' (Kd.R_newM (M:=fun k_=>(w.heap.size≤k_)) qgF (Qi (by repeat (first|(with_reducible first|exact HB.out|apply Q3|apply Q1|apply Q6|refine Q5 ?_ Jm.out)|exact HB.out))) (fun k_ h_=>h_)) (Kd.R_lt (by (with_reducible repeat (first|apply Kd.R_alloc|apply Kd.R_drewN|apply Kd.R_drew));exact Gj.out))) (Kd.R_lt (by (with_reducible repeat (first|apply Kd.R_alloc|apply Kd.R_drewN|apply Kd.R_drew));exact qcQ.out))) (Qi (by repeat (first|(with_reducible first|exact HB.out|apply Q3|apply Q1|apply Q6|refine Q5 ?_ Jm.out)|exact HB.out))));have n5_:=Q0.mk (Qf (g:=Zc) (by (with_reducible repeat (first|refine Q4 ?_ _|refine Q7 ?_|refine Q2 ?_ _));exact Zi.out) hb);have n6_:=Q0.mk (Qk (by repeat (first|(with_reducible first|exact HB.out|apply Q3|apply Q1|apply Q6|refine Q5 ?_ Jm.out)|exact HB.out)) hb);clear JF Gj OD qcQ Zi HB;have JF:=n0_;have Gj:=n1_;have OD:=n2_;have qcQ:=n3_;have qkT:=n4_;have Zi:=n5_;have HB:=n6_;clear n0_ n1_ n2_ n3_ n4_ n5_ n6_ hb qgF;obtain ⟨qvp,qwf,qFc⟩:=Kd.R_slice qcQ.out;subst qFc;obtain ⟨qvq,qwg,qFd⟩:=Kd.R_slice qkT.out;subst qFd)|((with_reducible refine QZ (N:=10) rfl ?_);refine Kd.N_lit (Kd.slice 3 (Kd.int .i64)) _ 37 ?hg (N':=10) ?hd (xs:=([qkJ,qnr]:List (List Int))) (inner:=[.slice qvp qkJ.length qwf,.slice qvq qnr.length qwg]) (ok:=(fun k_=>(w.heap.size≤k_)∧some k_≠(Wn:Value).ownBlock∧some k_≠(Wo:Value).ownBlock∧some k_≠(qkz:Value).ownBlock∧k_≠Zc)) (okp:=(fun k_=>(w.heap.size≤k_)∧some k_≠(Wn:Value).ownBlock∧some k_≠(Wo:Value).ownBlock∧some k_≠(qkz:Value).ownBlock∧k_≠Zc)) ?hr ?hp (fun _ hk=>hk) ((show ∀ k_,w26.heap.size≤k_→(fun k_=>(w.heap.size≤k_)∧some k_≠(Wn:Value).ownBlock∧some k_≠(Wo:Value).ownBlock∧some k_≠(qkz:Value).ownBlock∧k_≠Zc) k_ from fun k_ hk=>⟨(Nat.le_trans (Qi (by repeat (first|(with_reducible first|exact HB.out|apply Q3|apply Q1|apply Q6|refine Q5 ?_ Jm.out)|exact HB.out))) hk),Kd.fresh' (Kd.N_lt (by (with_reducible repeat (first|apply Kd.N_alloc|apply Kd.N_drewN|apply Kd.N_drew));exact JF.out)) k_ hk,Kd.fresh' (Kd.R_lt (by (with_reducible repeat (first|apply Kd.R_alloc|apply Kd.R_drewN|apply Kd.R_drew));exact Gj.out)) k_ hk,Kd.fresh' (Kd.N_lt (by (with_reducible repeat (first|apply Kd.N_alloc|apply Kd.N_drewN|apply Kd.N_drew));exact OD.out)) k_ hk,Kd.freshB (g:=Zc) (by (with_reducible repeat (first|refine Q4 ?_ _|refine Q7 ?_|refine Q2 ?_ _));exact Zi.out) k_ hk⟩) _ (Nat.le_refl _)) (Below.refl _ _) (Nat.le_refl _) (by simp) ?_;(case hd=>rfl);(case hg=>rfl);(case hr=>first|(go_simp;done)|(go_simp;rfl));(case hp=>exact (Reps.one (show Kd.FK (Kd.slice 3 (Kd.int .i64)) _ _ qkJ [.slice qvp qkJ.length qwf] from (Kd.FK_slice_mk (Kd.R_reads' (Kd.R_mono (ok':=(fun k_=>(w.heap.size≤k_)∧some k_≠(Wn:Value).ownBlock∧some k_≠(Wo:Value).ownBlock∧some k_≠(qkz:Value).ownBlock∧k_≠Zc)) (Kd.R_types (Kd.R_apart' (Kd.R_apart' (qcQ.out) (Kd.N_typed JF.out) (by decide)) (Kd.N_typed OD.out) (by decide)) Zi.out (by decide)) (fun k_ hk=>⟨hk.1.1.1.1.1.1,⟨hk.1.1.2,⟨hk.1.1.1.1.2,⟨hk.1.2,hk.2⟩⟩⟩⟩))).2.1 (Kd.R_F (Kd.R_mono (ok':=(fun k_=>(w.heap.size≤k_)∧some k_≠(Wn:Value).ownBlock∧some k_≠(Wo:Value).ownBlock∧some k_≠(qkz:Value).ownBlock∧k_≠Zc)) (Kd.R_types (Kd.R_apart' (Kd.R_apart' (qcQ.out) (Kd.N_typed JF.out) (by decide)) (Kd.N_typed OD.out) (by decide)) Zi.out (by decide)) (fun k_ hk=>⟨hk.1.1.1.1.1.1,⟨hk.1.1.2,⟨hk.1.1.1.1.2,⟨hk.1.2,hk.2⟩⟩⟩⟩))))) (Reps.one (show Kd.FK (Kd.slice 3 (Kd.int .i64)) _ _ qnr [.slice qvq qnr.length qwg] from (Kd.FK_slice_mk (Kd.R_reads' (Kd.R_mono (ok':=(fun k_=>(w.heap.size≤k_)∧some k_≠(Wn:Value).ownBlock∧some k_≠(Wo:Value).ownBlock∧some k_≠(qkz:Value).ownBlock∧k_≠Zc)) (Kd.R_types (Kd.R_apart' (Kd.R_apart' (qkT.out) (Kd.N_typed JF.out) (by decide)) (Kd.N_typed OD.out) (by decide)) Zi.out (by decide)) (fun k_ hk=>⟨hk.1.1.1.1.1.1,⟨hk.1.1.2,⟨hk.1.1.1.1.2,⟨hk.1.2,hk.2⟩⟩⟩⟩))).2.1 (Kd.R_F (Kd.R_mono (ok':=(fun k_=>(w.heap.size≤k_)∧some k_≠(Wn:Value).ownBlock∧some k_≠(Wo:Value).ownBlock∧some k_≠(qkz:Value).ownBlock∧k_≠Zc)) (Kd.R_types (Kd.R_apart' (Kd.R_apart' (qkT.out) (Kd.N_typed JF.out) (by decide)) (Kd.N_typed OD.out) (by decide)) Zi.out (by decide)) (fun k_ hk=>⟨hk.1.1.1.1.1.1,⟨hk.1.1.2,⟨hk.1.1.1.1.2,⟨hk.1.2,hk.2⟩⟩⟩⟩))))) (Reps.none _ _))));intro qJV w30 qjF hb hg_ hnew_;clear hg_ hnew_;(first|rw [← qsu.out] at qjF|(simp only [Int.reduceToNat] at qjF;rw [← qsu.out] at qjF));have n0_:=Q0.mk (Kd.N_elder' (by (with_reducible repeat (first|apply Kd.N_alloc|apply Kd.N_drewN|apply Kd.N_drew));exact JF.out) (Kd.N_base qjF) hb);have n1_:=Q0.mk (Kd.R_below (by (with_reducible repeat (first|apply Kd.R_alloc|apply Kd.R_drewN|apply Kd.R_drew));exact Gj.out) hb);have n2_:=Q0.mk (Kd.N_elder' (by (with_reducible repeat (first|apply Kd.N_alloc|apply Kd.N_drewN|apply Kd.N_drew));exact OD.out) (Kd.N_base qjF) hb);have n3_:=Q0.mk (Kd.N_lower qjF (Qi (by repeat (first|(with_reducible first|exact HB.out|apply Q3|apply Q1|apply Q6|refine Q5 ?_ Jm.out)|exact HB.out))));have n4_:=Q0.mk (Qf (g:=Zc) (by (with_reducible repeat (first|refine Q4 ?_ _|refine Q7 ?_|refine Q2 ?_ _));exact Zi.out) hb);have n5_:=Q0.mk (Qk (by repeat (first|(with_reducible first|exact HB.out|apply Q3|apply Q1|apply Q6|refine Q5 ?_ Jm.out)|exact HB.out)) hb);clear JF Gj OD Zi HB qcQ qkT;have JF:=n0_;have Gj:=n1_;have OD:=n2_;have qkU:=n3_;have Zi:=n4_;have HB:=n5_;clear n0_ n1_ n2_ n3_ n4_ n5_ hb qjF;obtain ⟨qvr,qwh,qFe⟩:=Kd.N_slice OD.out;subst qFe;obtain ⟨qvs,qwi,qFf⟩:=Kd.N_slice qkU.out;subst qFf)|((with_reducible refine QZ (N:=11) rfl ?_);refine Kd.N_lit (Kd.slice 37 (Kd.slice 3 (Kd.int .i64))) _ 63 ?hg (N':=11) ?hd (xs:=([qht,qns]:List (List (List Int)))) (inner:=[.slice qvr qht.length qwh,.slice qvs qns.length qwi]) (ok:=(fun k_=>(w.heap.size≤k_)∧some k_≠(Wn:Value).ownBlock∧some k_≠(Wo:Value).ownBlock∧k_≠Zc)) (okp:=(fun k_=>(w.heap.size≤k_)∧some k_≠(Wn:Value).ownBlock∧some k_≠(Wo:Value).ownBlock∧k_≠Zc)) ?hr ?hp (fun _ hk=>hk) ((show ∀ k_,w30.heap.size≤k_→(fun k_=>(w.heap.size≤k_)∧some k_≠(Wn:Value).ownBlock∧some k_≠(Wo:Value).ownBlock∧k_≠Zc) k_ from fun k_ hk=>⟨(Nat.le_trans (Qi (by repeat (first|(with_reducible first|exact HB.out|apply Q3|apply Q1|apply Q6|refine Q5 ?_ Jm.out)|exact HB.out))) hk),Kd.fresh' (Kd.N_lt (by (with_reducible repeat (first|apply Kd.N_alloc|apply Kd.N_drewN|apply Kd.N_drew));exact JF.out)) k_ hk,Kd.fresh' (Kd.R_lt (by (with_reducible repeat (first|apply Kd.R_alloc|apply Kd.R_drewN|apply Kd.R_drew));exact Gj.out)) k_ hk,Kd.freshB (g:=Zc) (by (with_reducible repeat (first|refine Q4 ?_ _|refine Q7 ?_|refine Q2 ?_ _));exact Zi.out) k_ hk⟩) _ (Nat.le_refl _)) (Below.refl _ _) (Nat.le_refl _) (by simp) ?_;(case hd=>rfl);(case hg=>rfl);(case hr=>first|(go_simp;done)|(go_simp;rfl));(case hp=>exact (Reps.one (show Kd.FK (Kd.slice 37 (Kd.slice 3 (Kd.int .i64))) _ _ qht [.slice qvr qht.length qwh] from (Kd.FK_slice_mk (Kd.N_reads' (Kd.N_mono (ok':=(fun k_=>(w.heap.size≤k_)∧some k_≠(Wn:Value).ownBlock∧some k_≠(Wo:Value).ownBlock∧k_≠Zc)) (OD.out) (fun k_ hk=>⟨hk.1.1.1.1,⟨hk.1.1.1.2.1,⟨hk.1.1.1.2.2.1,hk.1.1.1.2.2.2⟩⟩⟩))).2.1 (Kd.N_F (Kd.N_mono (ok':=(fun k_=>(w.heap.size≤k_)∧some k_≠(Wn:Value).ownBlock∧some k_≠(Wo:Value).ownBlock∧k_≠Zc)) (OD.out) (fun k_ hk=>⟨hk.1.1.1.1,⟨hk.1.1.1.2.1,⟨hk.1.1.1.2.2.1,hk.1.1.1.2.2.2⟩⟩⟩))))) (Reps.one (show Kd.FK (Kd.slice 37 (Kd.slice 3 (Kd.int .i64))) _ _ qns [.slice qvs qns.length qwi] from (Kd.FK_slice_mk (Kd.N_reads' (Kd.N_mono (ok':=(fun k_=>(w.heap.size≤k_)∧some k_≠(Wn:Value).ownBlock∧some k_≠(Wo:Value).ownBlock∧k_≠Zc)) (qkU.out) (fun k_ hk=>⟨hk.1,⟨hk.2.1,⟨hk.2.2.1,hk.2.2.2.2⟩⟩⟩))).2.1 (Kd.N_F (Kd.N_mono (ok':=(fun k_=>(w.heap.size≤k_)∧some k_≠(Wn:Value).ownBlock∧some k_≠(Wo:Value).ownBlock∧k_≠Zc)) (qkU.out) (fun k_ hk=>⟨hk.1,⟨hk.2.1,⟨hk.2.2.1,hk.2.2.2.2⟩⟩⟩))))) (Reps.none _ _))));intro qJW w34 qmQ hb hg_ hnew_;clear hg_ hnew_;(first|rw [← qsv.out] at qmQ|(simp only [Int.reduceToNat] at qmQ;rw [← qsv.out] at qmQ));have n0_:=Q0.mk (Kd.N_elder' (by (with_reducible repeat (first|apply Kd.N_alloc|apply Kd.N_drewN|apply Kd.N_drew));exact JF.out) (Kd.N_base qmQ) hb);have n1_:=Q0.mk (Kd.R_below (by (with_reducible repeat (first|apply Kd.R_alloc|apply Kd.R_drewN|apply Kd.R_drew));exact Gj.out) hb);have n2_:=Q0.mk (Kd.N_lower qmQ (Qi (by repeat (first|(with_reducible first|exact HB.out|apply Q3|apply Q1|apply Q6|refine Q5 ?_ Jm.out)|exact HB.out))));have n3_:=Q0.mk (Qf (g:=Zc) (by (with_reducible repeat (first|refine Q4 ?_ _|refine Q7 ?_|refine Q2 ?_ _));exact Zi.out) hb);have n4_:=Q0.mk (Qk (by repeat (first|(with_reducible first|exact HB.out|apply Q3|apply Q1|apply Q6|refine Q5 ?_ Jm.out)|exact HB.out)) hb);clear JF Gj Zi HB OD qkU;have JF:=n0_;have Gj:=n1_;have qsf:=n2_;have Zi:=n3_;have HB:=n4_;clear n0_ n1_ n2_ n3_ n4_ hb qmQ;obtain ⟨qpp,qpX,qFg⟩:=Kd.N_slice qsf.out;subst qFg;obtain ⟨qnG,qob,qFh⟩:=Kd.R_slice Gj.out;subst qFh;obtain ⟨qmr,qmA,qFi⟩:=Kd.N_slice JF.out;subst qFi;have qqi:w34.cell? ⟨Zc,0,none⟩=some (.slice none 0 0):=(Q8 Zi.out 0).trans rfl;have qqj:w34.cell? ⟨Zc,1,none⟩=some (.slice none 0 0):=(Q8 Zi.out 1).trans rfl;have qqk:w34.cell? ⟨Zc,2,none⟩=some (.slice none 0 0):=(Q8 Zi.out 2).trans rfl;have qqW:=Q9 Zi.out 0;have qqX:=Q9 Zi.out 1;have qqY:=Q9 Zi.out 2))
 refine bodyPost_ret (results_cell_row rfl _ _ Zc 47 #[.slice qmr qbd.length qmA,.slice qnG qcM.length qob,.slice qpp qpo.length qpX] (0,0) _ rfl (by (with_reducible repeat (first|refine Q4 ?_ _|refine Q7 ?_|refine Q2 ?_ _));refine QH (cs:=#[.slice qmr qbd.length qmA,.slice qnG qcM.length qob,.slice none 0 0]) ?_ 2 _ rfl;(with_reducible repeat (first|refine Q4 ?_ _|refine Q7 ?_|refine Q2 ?_ _));refine QH (cs:=#[.slice qmr qbd.length qmA,.slice none 0 0,.slice none 0 0]) ?_ 1 _ rfl;(with_reducible repeat (first|refine Q4 ?_ _|refine Q7 ?_|refine Q2 ?_ _));refine QH (cs:=#[.slice none 0 0,.slice none 0 0,.slice none 0 0]) ?_ 0 _ rfl;(with_reducible repeat (first|refine Q4 ?_ _|refine Q7 ?_|refine Q2 ?_ _));exact Zi.out) Try.underlying47 rfl (by kernel_rfl)) rfl ?_
 exact ⟨_,_,_,by first|rfl|(simp [Qx,Qy]<;>rfl)|(simp [*,Qx,Qy]<;>rfl),by (with_reducible repeat (first|apply Kd.N_alloc|apply Kd.N_drewN|apply Kd.N_drew));exact Kd.N_mono (Kd.N_far (p:=⟨Zc,2,none⟩) (Kd.N_far (p:=⟨Zc,1,none⟩) (Kd.N_far (p:=⟨Zc,0,none⟩) (Kd.N_mono JF.out (fun k_ hk=>(⟨hk,hk.1.1.1.1.1.1.1.1.2⟩:_∧k_≠Zc))) (fun _ hk=>hk.2) (.slice qmr qbd.length qmA)) (fun _ hk=>hk.2) (.slice qnG qcM.length qob)) (fun _ hk=>hk.2) (.slice qpp qpo.length qpX)) (fun _ hk=>⟨hk.1.1.1.1.1.1.1.1.1.1,⟨hk.1.1.1.1.1.1.1.1.2,hk.1.2⟩⟩),by (with_reducible repeat (first|apply Kd.R_alloc|apply Kd.R_drewN|apply Kd.R_drew));exact Kd.R_mono (Kd.R_far (p:=⟨Zc,2,none⟩) (Kd.R_far (p:=⟨Zc,1,none⟩) (Kd.R_far (p:=⟨Zc,0,none⟩) (Kd.R_types Gj.out Zi.out (by decide)) (fun _ hk=>hk.2) (.slice qmr qbd.length qmA)) (fun _ hk=>hk.2) (.slice qnG qcM.length qob)) (fun _ hk=>hk.2) (.slice qpp qpo.length qpX)) (fun _ hk=>hk.1.1.1.1.1.1),by (with_reducible repeat (first|apply Kd.N_alloc|apply Kd.N_drewN|apply Kd.N_drew));exact Kd.N_mono (Kd.N_far (p:=⟨Zc,2,none⟩) (Kd.N_far (p:=⟨Zc,1,none⟩) (Kd.N_far (p:=⟨Zc,0,none⟩) (Kd.N_mono qsf.out (fun k_ hk=>(⟨hk,hk.2.2.2⟩:_∧k_≠Zc))) (fun _ hk=>hk.2) (.slice qmr qbd.length qmA)) (fun _ hk=>hk.2) (.slice qnG qcM.length qob)) (fun _ hk=>hk.2) (.slice qpp qpo.length qpX)) (fun _ hk=>⟨hk.1.1,⟨hk.1.2.1,hk.1.2.2.1⟩⟩),by repeat (first|(with_reducible first|exact HB.out|apply Q3|apply Q1|apply Q6|refine Q5 ?_ Jm.out)|exact HB.out)⟩
end
section
attribute [local go_sem] Ys Yu YG YH Yj Yk Yt Yv
def Gt.f  : Option ((List (S68))):=(QN.f 2 2).bind fun qhK=>((QN.f 3 4).bind fun qcT=>((QN.f 4 6).bind fun XK=>(some (([(⟨30,(⟨qhK.1,qhK.2⟩:S25)⟩:S68),(⟨20,(⟨qcT.1,qcT.2⟩:S25)⟩:S68),(⟨10,(⟨XK.1,XK.2⟩:S25)⟩:S68)]:List (S68))))))
set_option maxHeartbeats 8000000 in
set_option maxRecDepth 100000 in
theorem Gt.calls  (r:List (S68)) (w:World) (h:Gt.f  = some r) :
  Calls Try.prog 59 #[] w fun e w' => ∃ v0_:Value,e = .returned (v0_)∧Kd.R k68 68 w' w.heap.size (fun _=>True) v0_ r∧Below w.heap.size w w':=by
 have qF0:=Try.underlying68
 have HB:=Q0.mk (Below.refl w.heap.size w)
 have H:((QN.f 2 2).bind fun qhK=>((QN.f 3 4).bind fun qcT=>((QN.f 4 6).bind fun XK=>(some (([(⟨30,(⟨qhK.1,qhK.2⟩:S25)⟩:S68),(⟨20,(⟨qcT.1,qcT.2⟩:S25)⟩:S68),(⟨10,(⟨XK.1,XK.2⟩:S25)⟩:S68)]:List (S68)))))))=some r:=h
 clear h
 replace H:=Option.bind_eq_some_iff.mp H
 obtain ⟨⟨qe6,qe7⟩,A10,H⟩:=H
 replace H:((QN.f 3 4).bind fun qcT=>((QN.f 4 6).bind fun XK=>(some (([(⟨30,(⟨qe6,qe7⟩:S25)⟩:S68),(⟨20,(⟨qcT.1,qcT.2⟩:S25)⟩:S68),(⟨10,(⟨XK.1,XK.2⟩:S25)⟩:S68)]:List (S68))))))=some r:=H
 have A1:=Q0.mk A10
 clear A10
 replace H:=Option.bind_eq_some_iff.mp H
 obtain ⟨⟨qg1,qg2⟩,A20,H⟩:=H
 replace H:((QN.f 4 6).bind fun XK=>(some (([(⟨30,(⟨qe6,qe7⟩:S25)⟩:S68),(⟨20,(⟨qg1,qg2⟩:S25)⟩:S68),(⟨10,(⟨XK.1,XK.2⟩:S25)⟩:S68)]:List (S68)))))=some r:=H
 have A2:=Q0.mk A20
 clear A20
 replace H:=Option.bind_eq_some_iff.mp H
 obtain ⟨⟨qiQ,qiR⟩,A30,H⟩:=H
 replace H:(some (([(⟨30,(⟨qe6,qe7⟩:S25)⟩:S68),(⟨20,(⟨qg1,qg2⟩:S25)⟩:S68),(⟨10,(⟨qiQ,qiR⟩:S25)⟩:S68)]:List (S68))))=some r:=H
 have A3:=Q0.mk A30
 clear A30
 obtain ⟨qF5,qig⟩:∃ y_:List (S68),y_=(([(⟨30,(⟨qe6,qe7⟩:S25)⟩:S68),(⟨20,(⟨qg1,qg2⟩:S25)⟩:S68),(⟨10,(⟨qiQ,qiR⟩:S25)⟩:S68)]:List (S68))):=⟨_,rfl⟩
 replace H:(some qF5)=some r:=by first|(rw [qig];with_reducible exact H)|(have H2_:=(Option.bind_some _ _).symm.trans H;rw [qig];with_reducible exact H2_)|(have H2_:=(Option.bind_some _ _).symm.trans H;with_reducible exact H2_)|with_reducible exact H|(rw [qig];exact H)|exact H
 have qsw:=Q0.mk qig
 clear qig
 obtain rfl:=Option.some.inj H
 go_enter Try.func59,Try.ntmps59
 go_wp2_with (first|((with_reducible refine QD (f:=43) rfl ?_);refine YC (some 1) rfl rfl Try.func43 (by kernel_rfl) rfl #[.int .i64 2,.int .i64 2] rfl (by (try simp only [List.map_toArray,List.map_cons,List.map_nil]);first|done|rfl|(simp only [List.length_drop,List.length_take];rfl)) ?_;(with_reducible refine (QN.calls 2 2 qe6 qe7 _ A1.out).mono ?_);rintro e w4 ⟨rfl,hb⟩;refine ⟨_,rfl,?_⟩;have n0_:=Q0.mk (Qk (by repeat (first|(with_reducible first|exact HB.out|apply Q3|apply Q1|apply Q6)|exact HB.out)) hb);clear HB;have HB:=n0_;clear n0_;(try clear hb);(try clear hb2);(try clear hk);(try clear hi))|((with_reducible refine QD (f:=43) rfl ?_);refine YC (some 3) rfl rfl Try.func43 (by kernel_rfl) rfl #[.int .i64 3,.int .i64 4] rfl (by (try simp only [List.map_toArray,List.map_cons,List.map_nil]);first|done|rfl|(simp only [List.length_drop,List.length_take];rfl)) ?_;(with_reducible refine (QN.calls 3 4 qg1 qg2 _ A2.out).mono ?_);rintro e w5 ⟨rfl,hb⟩;refine ⟨_,rfl,?_⟩;have n0_:=Q0.mk (Qk (by repeat (first|(with_reducible first|exact HB.out|apply Q3|apply Q1|apply Q6)|exact HB.out)) hb);clear HB;have HB:=n0_;clear n0_;(try clear hb);(try clear hb2);(try clear hk);(try clear hi))|((with_reducible refine QD (f:=43) rfl ?_);refine YC (some 5) rfl rfl Try.func43 (by kernel_rfl) rfl #[.int .i64 4,.int .i64 6] rfl (by (try simp only [List.map_toArray,List.map_cons,List.map_nil]);first|done|rfl|(simp only [List.length_drop,List.length_take];rfl)) ?_;(with_reducible refine (QN.calls 4 6 qiQ qiR _ A3.out).mono ?_);rintro e w6 ⟨rfl,hb⟩;refine ⟨_,rfl,?_⟩;have n0_:=Q0.mk (Qk (by repeat (first|(with_reducible first|exact HB.out|apply Q3|apply Q1|apply Q6)|exact HB.out)) hb);clear HB;have HB:=n0_;clear n0_;(try clear hb);(try clear hb2);(try clear hk);(try clear hi))|((with_reducible refine QZ (N:=7) rfl ?_);refine Kd.R_lit k68 _ 68 ?hg (N:=7) ?hd (xs:=([(⟨30,(⟨qe6,qe7⟩:S25)⟩:S68),(⟨20,(⟨qg1,qg2⟩:S25)⟩:S68),(⟨10,(⟨qiQ,qiR⟩:S25)⟩:S68)]:List (S68))) (inner:=[.int .i64 30,.int .i64 qe6,.int .i64 qe7,.int .i64 20,.int .i64 qg1,.int .i64 qg2,.int .i64 10,.int .i64 qiQ,.int .i64 qiR]) (ok:=fun _=>True) (okp:=fun _=>True) ?hr ?hp (fun _ hk=>hk) trivial (Below.refl _ _) (Nat.le_refl _) (by simp) ?_;(case hd=>rfl);(case hg=>rfl);(case hr=>first|(go_simp;done)|(go_simp;rfl));(case hp=>exact (Reps.c3 (show Kd.M k68 _ _ _ (⟨30,(⟨qe6,qe7⟩:S25)⟩:S68) [.int .i64 30,.int .i64 qe6,.int .i64 qe7] from (qgJ _ _ _ (⟨30,(⟨qe6,qe7⟩:S25)⟩:S68) )) (Reps.c3 (show Kd.M k68 _ _ _ (⟨20,(⟨qg1,qg2⟩:S25)⟩:S68) [.int .i64 20,.int .i64 qg1,.int .i64 qg2] from (qgJ _ _ _ (⟨20,(⟨qg1,qg2⟩:S25)⟩:S68) )) (Reps.c3 (show Kd.M k68 _ _ _ (⟨10,(⟨qiQ,qiR⟩:S25)⟩:S68) [.int .i64 10,.int .i64 qiQ,.int .i64 qiR] from (qgJ _ _ _ (⟨10,(⟨qiQ,qiR⟩:S25)⟩:S68) )) (Reps.none _ _)))));intro qJX w7 ho8 hb hg_ hnew_;clear hg_ hnew_;(first|rw [← qsw.out] at ho8|(simp only [Int.reduceToNat] at ho8;rw [← qsw.out] at ho8));have n0_:=Q0.mk (Kd.R_lower ho8 (Qi (by repeat (first|(with_reducible first|exact HB.out|apply Q3|apply Q1|apply Q6)|exact HB.out))));have n1_:=Q0.mk (Qk (by repeat (first|(with_reducible first|exact HB.out|apply Q3|apply Q1|apply Q6)|exact HB.out)) hb);clear HB;have qvB:=n0_;have HB:=n1_;clear n0_ n1_ hb ho8))
 go_ret
 exact ⟨_,by first|rfl|(simp [Qx,Qy]<;>rfl)|(simp [*,Qx,Qy]<;>rfl),by (with_reducible repeat (first|apply Kd.R_alloc|apply Kd.R_drewN|apply Kd.R_drew));exact qvB.out,by repeat (first|(with_reducible first|exact HB.out|apply Q3|apply Q1|apply Q6)|exact HB.out)⟩
end
section
attribute [local go_sem] Ys Yu YG YH Yj Yk Yt Yv
def Kt.f  : Option ((List (S25))):=(QN.f 45 50).bind fun qhL=>((QN.f 50 55).bind fun qcU=>(some (([(⟨qhL.1,qhL.2⟩:S25),(⟨qcU.1,qcU.2⟩:S25)]:List (S25)))))
set_option maxHeartbeats 8000000 in
set_option maxRecDepth 100000 in
theorem Kt.calls  (r:List (S25)) (w:World) (h:Kt.f  = some r) :
  Calls Try.prog 60 #[] w fun e w' => ∃ v0_:Value,e = .returned (v0_)∧Kd.R k25 25 w' w.heap.size (fun _=>True) v0_ r∧Below w.heap.size w w':=by
 have HB:=Q0.mk (Below.refl w.heap.size w)
 have H:((QN.f 45 50).bind fun qhL=>((QN.f 50 55).bind fun qcU=>(some (([(⟨qhL.1,qhL.2⟩:S25),(⟨qcU.1,qcU.2⟩:S25)]:List (S25))))))=some r:=h
 clear h
 replace H:=Option.bind_eq_some_iff.mp H
 obtain ⟨⟨qg3,qg4⟩,A10,H⟩:=H
 replace H:((QN.f 50 55).bind fun qcU=>(some (([(⟨qg3,qg4⟩:S25),(⟨qcU.1,qcU.2⟩:S25)]:List (S25)))))=some r:=H
 have A1:=Q0.mk A10
 clear A10
 replace H:=Option.bind_eq_some_iff.mp H
 obtain ⟨⟨qiS,qiT⟩,A20,H⟩:=H
 replace H:(some (([(⟨qg3,qg4⟩:S25),(⟨qiS,qiT⟩:S25)]:List (S25))))=some r:=H
 have A2:=Q0.mk A20
 clear A20
 obtain ⟨qF6,qih⟩:∃ y_:List (S25),y_=(([(⟨qg3,qg4⟩:S25),(⟨qiS,qiT⟩:S25)]:List (S25))):=⟨_,rfl⟩
 replace H:(some qF6)=some r:=by first|(rw [qih];with_reducible exact H)|(have H2_:=(Option.bind_some _ _).symm.trans H;rw [qih];with_reducible exact H2_)|(have H2_:=(Option.bind_some _ _).symm.trans H;with_reducible exact H2_)|with_reducible exact H|(rw [qih];exact H)|exact H
 have qsx:=Q0.mk qih
 clear qih
 obtain rfl:=Option.some.inj H
 go_enter Try.func60,Try.ntmps60
 go_wp2_with (first|((with_reducible refine QD (f:=43) rfl ?_);refine YC (some 1) rfl rfl Try.func43 (by kernel_rfl) rfl #[.int .i64 45,.int .i64 50] rfl (by (try simp only [List.map_toArray,List.map_cons,List.map_nil]);first|done|rfl|(simp only [List.length_drop,List.length_take];rfl)) ?_;(with_reducible refine (QN.calls 45 50 qg3 qg4 _ A1.out).mono ?_);rintro e w3 ⟨rfl,hb⟩;refine ⟨_,rfl,?_⟩;have n0_:=Q0.mk (Qk (by repeat (first|(with_reducible first|exact HB.out|apply Q3|apply Q1|apply Q6)|exact HB.out)) hb);clear HB;have HB:=n0_;clear n0_;(try clear hb);(try clear hb2);(try clear hk);(try clear hi))|((with_reducible refine QD (f:=43) rfl ?_);refine YC (some 2) rfl rfl Try.func43 (by kernel_rfl) rfl #[.int .i64 50,.int .i64 55] rfl (by (try simp only [List.map_toArray,List.map_cons,List.map_nil]);first|done|rfl|(simp only [List.length_drop,List.length_take];rfl)) ?_;(with_reducible refine (QN.calls 50 55 qiS qiT _ A2.out).mono ?_);rintro e w4 ⟨rfl,hb⟩;refine ⟨_,rfl,?_⟩;have n0_:=Q0.mk (Qk (by repeat (first|(with_reducible first|exact HB.out|apply Q3|apply Q1|apply Q6)|exact HB.out)) hb);clear HB;have HB:=n0_;clear n0_;(try clear hb);(try clear hb2);(try clear hk);(try clear hi))|((with_reducible refine QZ (N:=3) rfl ?_);refine Kd.R_lit k25 _ 25 ?hg (N:=3) ?hd (xs:=([(⟨qg3,qg4⟩:S25),(⟨qiS,qiT⟩:S25)]:List (S25))) (inner:=[.int .i64 qg3,.int .i64 qg4,.int .i64 qiS,.int .i64 qiT]) (ok:=fun _=>True) (okp:=fun _=>True) ?hr ?hp (fun _ hk=>hk) trivial (Below.refl _ _) (Nat.le_refl _) (by simp) ?_;(case hd=>rfl);(case hg=>rfl);(case hr=>first|(go_simp;done)|(go_simp;rfl));(case hp=>exact (Reps.c2 (show Kd.M k25 _ _ _ (⟨qg3,qg4⟩:S25) [.int .i64 qg3,.int .i64 qg4] from (Ux _ _ _ (⟨qg3,qg4⟩:S25) )) (Reps.c2 (show Kd.M k25 _ _ _ (⟨qiS,qiT⟩:S25) [.int .i64 qiS,.int .i64 qiT] from (Ux _ _ _ (⟨qiS,qiT⟩:S25) )) (Reps.none _ _))));intro qJY w5 ho6 hb hg_ hnew_;clear hg_ hnew_;(first|rw [← qsx.out] at ho6|(simp only [Int.reduceToNat] at ho6;rw [← qsx.out] at ho6));have n0_:=Q0.mk (Kd.R_lower ho6 (Qi (by repeat (first|(with_reducible first|exact HB.out|apply Q3|apply Q1|apply Q6)|exact HB.out))));have n1_:=Q0.mk (Qk (by repeat (first|(with_reducible first|exact HB.out|apply Q3|apply Q1|apply Q6)|exact HB.out)) hb);clear HB;have qvC:=n0_;have HB:=n1_;clear n0_ n1_ hb ho6))
 go_ret
 exact ⟨_,by first|rfl|(simp [Qx,Qy]<;>rfl)|(simp [*,Qx,Qy]<;>rfl),by (with_reducible repeat (first|apply Kd.R_alloc|apply Kd.R_drewN|apply Kd.R_drew));exact qvC.out,by repeat (first|(with_reducible first|exact HB.out|apply Q3|apply Q1|apply Q6)|exact HB.out)⟩
end
section
attribute [local go_sem] Ys Yu YG YH Yj Yk Yt Yv
def GZ.f  : Option ((List (List (S25)))):=(QN.f 60 70).bind fun qhM=>((QN.f 30 40).bind fun qcV=>((QN.f 20 30).bind fun UO=>((QN.f 70 80).bind fun Ui=>(some (([(([(⟨qhM.1,qhM.2⟩:S25),(⟨qcV.1,qcV.2⟩:S25)]:List (S25))),(([(⟨UO.1,UO.2⟩:S25),(⟨Ui.1,Ui.2⟩:S25)]:List (S25)))]:List (List (S25))))))))
set_option maxHeartbeats 8000000 in
set_option maxRecDepth 100000 in
theorem GZ.calls  (r:List (List (S25))) (w:World) (h:GZ.f  = some r) :
  Calls Try.prog 61 #[] w fun e w' => ∃ v0_:Value,e = .returned (v0_)∧Kd.N (Kd.slice 25 k25) 32 w' w.heap.size (fun k_=>(w.heap.size≤k_)) v0_ r∧Below w.heap.size w w':=by
 have HB:=Q0.mk (Below.refl w.heap.size w)
 have H:((QN.f 60 70).bind fun qhM=>((QN.f 30 40).bind fun qcV=>((QN.f 20 30).bind fun UO=>((QN.f 70 80).bind fun Ui=>(some (([(([(⟨qhM.1,qhM.2⟩:S25),(⟨qcV.1,qcV.2⟩:S25)]:List (S25))),(([(⟨UO.1,UO.2⟩:S25),(⟨Ui.1,Ui.2⟩:S25)]:List (S25)))]:List (List (S25)))))))))=some r:=h
 clear h
 replace H:=Option.bind_eq_some_iff.mp H
 obtain ⟨⟨qg5,qg6⟩,A10,H⟩:=H
 replace H:((QN.f 30 40).bind fun qcV=>((QN.f 20 30).bind fun UO=>((QN.f 70 80).bind fun Ui=>(some (([(([(⟨qg5,qg6⟩:S25),(⟨qcV.1,qcV.2⟩:S25)]:List (S25))),(([(⟨UO.1,UO.2⟩:S25),(⟨Ui.1,Ui.2⟩:S25)]:List (S25)))]:List (List (S25))))))))=some r:=H
 have A1:=Q0.mk A10
 clear A10
 replace H:=Option.bind_eq_some_iff.mp H
 obtain ⟨⟨qiU,qiV⟩,A20,H⟩:=H
 replace H:((QN.f 20 30).bind fun UO=>((QN.f 70 80).bind fun Ui=>(some (([(([(⟨qg5,qg6⟩:S25),(⟨qiU,qiV⟩:S25)]:List (S25))),(([(⟨UO.1,UO.2⟩:S25),(⟨Ui.1,Ui.2⟩:S25)]:List (S25)))]:List (List (S25)))))))=some r:=H
 have A2:=Q0.mk A20
 clear A20
 obtain ⟨qhu,qii⟩:∃ y_:List (S25),y_=(([(⟨qg5,qg6⟩:S25),(⟨qiU,qiV⟩:S25)]:List (S25))):=⟨_,rfl⟩
 replace H:((QN.f 20 30).bind fun UO=>((QN.f 70 80).bind fun Ui=>(some (([qhu,(([(⟨UO.1,UO.2⟩:S25),(⟨Ui.1,Ui.2⟩:S25)]:List (S25)))]:List (List (S25)))))))=some r:=by first|(rw [qii];with_reducible exact H)|(have H2_:=(Option.bind_some _ _).symm.trans H;rw [qii];with_reducible exact H2_)|(have H2_:=(Option.bind_some _ _).symm.trans H;with_reducible exact H2_)|with_reducible exact H|(rw [qii];exact H)|exact H
 have qsy:=Q0.mk qii
 clear qii
 replace H:=Option.bind_eq_some_iff.mp H
 obtain ⟨⟨qg7,qg8⟩,A30,H⟩:=H
 replace H:((QN.f 70 80).bind fun Ui=>(some (([qhu,(([(⟨qg7,qg8⟩:S25),(⟨Ui.1,Ui.2⟩:S25)]:List (S25)))]:List (List (S25))))))=some r:=H
 have A3:=Q0.mk A30
 clear A30
 replace H:=Option.bind_eq_some_iff.mp H
 obtain ⟨⟨qiW,qiX⟩,A40,H⟩:=H
 replace H:(some (([qhu,(([(⟨qg7,qg8⟩:S25),(⟨qiW,qiX⟩:S25)]:List (S25)))]:List (List (S25)))))=some r:=H
 have A4:=Q0.mk A40
 clear A40
 obtain ⟨qnt,qij⟩:∃ y_:List (S25),y_=(([(⟨qg7,qg8⟩:S25),(⟨qiW,qiX⟩:S25)]:List (S25))):=⟨_,rfl⟩
 replace H:(some (([qhu,qnt]:List (List (S25)))))=some r:=by first|(rw [qij];with_reducible exact H)|(have H2_:=(Option.bind_some _ _).symm.trans H;rw [qij];with_reducible exact H2_)|(have H2_:=(Option.bind_some _ _).symm.trans H;with_reducible exact H2_)|with_reducible exact H|(rw [qij];exact H)|exact H
 have qsz:=Q0.mk qij
 clear qij
 obtain ⟨qF7,qik⟩:∃ y_:List (List (S25)),y_=(([qhu,qnt]:List (List (S25)))):=⟨_,rfl⟩
 replace H:(some qF7)=some r:=by first|(rw [qik];with_reducible exact H)|(have H2_:=(Option.bind_some _ _).symm.trans H;rw [qik];with_reducible exact H2_)|(have H2_:=(Option.bind_some _ _).symm.trans H;with_reducible exact H2_)|with_reducible exact H|(rw [qik];exact H)|exact H
 have qsA:=Q0.mk qik
 clear qik
 obtain rfl:=Option.some.inj H
 go_enter Try.func61,Try.ntmps61
 go_wp2_with (first|((with_reducible refine QD (f:=43) rfl ?_);refine YC (some 1) rfl rfl Try.func43 (by kernel_rfl) rfl #[.int .i64 60,.int .i64 70] rfl (by (try simp only [List.map_toArray,List.map_cons,List.map_nil]);first|done|rfl|(simp only [List.length_drop,List.length_take];rfl)) ?_;(with_reducible refine (QN.calls 60 70 qg5 qg6 _ A1.out).mono ?_);rintro e w5 ⟨rfl,hb⟩;refine ⟨_,rfl,?_⟩;have n0_:=Q0.mk (Qk (by repeat (first|(with_reducible first|exact HB.out|apply Q3|apply Q1|apply Q6)|exact HB.out)) hb);clear HB;have HB:=n0_;clear n0_;(try clear hb);(try clear hb2);(try clear hk);(try clear hi))|((with_reducible refine QD (f:=43) rfl ?_);refine YC (some 2) rfl rfl Try.func43 (by kernel_rfl) rfl #[.int .i64 30,.int .i64 40] rfl (by (try simp only [List.map_toArray,List.map_cons,List.map_nil]);first|done|rfl|(simp only [List.length_drop,List.length_take];rfl)) ?_;(with_reducible refine (QN.calls 30 40 qiU qiV _ A2.out).mono ?_);rintro e w6 ⟨rfl,hb⟩;refine ⟨_,rfl,?_⟩;have n0_:=Q0.mk (Qk (by repeat (first|(with_reducible first|exact HB.out|apply Q3|apply Q1|apply Q6)|exact HB.out)) hb);clear HB;have HB:=n0_;clear n0_;(try clear hb);(try clear hb2);(try clear hk);(try clear hi))|((with_reducible refine QZ (N:=3) rfl ?_);refine Kd.R_lit k25 _ 25 ?hg (N:=3) ?hd (xs:=([(⟨qg5,qg6⟩:S25),(⟨qiU,qiV⟩:S25)]:List (S25))) (inner:=[.int .i64 qg5,.int .i64 qg6,.int .i64 qiU,.int .i64 qiV]) (ok:=fun _=>True) (okp:=fun _=>True) ?hr ?hp (fun _ hk=>hk) trivial (Below.refl _ _) (Nat.le_refl _) (by simp) ?_;(case hd=>rfl);(case hg=>rfl);(case hr=>first|(go_simp;done)|(go_simp;rfl));(case hp=>exact (Reps.c2 (show Kd.M k25 _ _ _ (⟨qg5,qg6⟩:S25) [.int .i64 qg5,.int .i64 qg6] from (Ux _ _ _ (⟨qg5,qg6⟩:S25) )) (Reps.c2 (show Kd.M k25 _ _ _ (⟨qiU,qiV⟩:S25) [.int .i64 qiU,.int .i64 qiV] from (Ux _ _ _ (⟨qiU,qiV⟩:S25) )) (Reps.none _ _))));intro qJZ w7 ho8 hb hg_ hnew_;clear hg_ hnew_;(first|rw [← qsy.out] at ho8|(simp only [Int.reduceToNat] at ho8;rw [← qsy.out] at ho8));have n0_:=Q0.mk (Kd.R_lower (Kd.R_newM (M:=fun k_=>(w.heap.size≤k_)) ho8 (Qi (by repeat (first|(with_reducible first|exact HB.out|apply Q3|apply Q1|apply Q6)|exact HB.out))) (fun k_ h_=>h_)) (Qi (by repeat (first|(with_reducible first|exact HB.out|apply Q3|apply Q1|apply Q6)|exact HB.out))));have n1_:=Q0.mk (Qk (by repeat (first|(with_reducible first|exact HB.out|apply Q3|apply Q1|apply Q6)|exact HB.out)) hb);clear HB;have UM:=n0_;have HB:=n1_;clear n0_ n1_ hb ho8)|((with_reducible refine QD (f:=43) rfl ?_);refine YC (some 4) rfl rfl Try.func43 (by kernel_rfl) rfl #[.int .i64 20,.int .i64 30] rfl (by (try simp only [List.map_toArray,List.map_cons,List.map_nil]);first|done|rfl|(simp only [List.length_drop,List.length_take];rfl)) ?_;(with_reducible refine (QN.calls 20 30 qg7 qg8 _ A3.out).mono ?_);rintro e w9 ⟨rfl,hb⟩;refine ⟨_,rfl,?_⟩;have n0_:=Q0.mk (Kd.R_below (by (with_reducible repeat (first|apply Kd.R_alloc|apply Kd.R_drewN|apply Kd.R_drew));exact UM.out) hb);have n1_:=Q0.mk (Qk (by repeat (first|(with_reducible first|exact HB.out|apply Q3|apply Q1|apply Q6)|exact HB.out)) hb);clear UM HB;have UM:=n0_;have HB:=n1_;clear n0_ n1_;(try clear hb);(try clear hb2);(try clear hk);(try clear hi))|((with_reducible refine QD (f:=43) rfl ?_);refine YC (some 5) rfl rfl Try.func43 (by kernel_rfl) rfl #[.int .i64 70,.int .i64 80] rfl (by (try simp only [List.map_toArray,List.map_cons,List.map_nil]);first|done|rfl|(simp only [List.length_drop,List.length_take];rfl)) ?_;(with_reducible refine (QN.calls 70 80 qiW qiX _ A4.out).mono ?_);rintro e w10 ⟨rfl,hb⟩;refine ⟨_,rfl,?_⟩;have n0_:=Q0.mk (Kd.R_below (by (with_reducible repeat (first|apply Kd.R_alloc|apply Kd.R_drewN|apply Kd.R_drew));exact UM.out) hb);have n1_:=Q0.mk (Qk (by repeat (first|(with_reducible first|exact HB.out|apply Q3|apply Q1|apply Q6)|exact HB.out)) hb);clear UM HB;have UM:=n0_;have HB:=n1_;clear n0_ n1_;(try clear hb);(try clear hb2);(try clear hk);(try clear hi))|((with_reducible refine QZ (N:=6) rfl ?_);refine Kd.R_lit k25 _ 25 ?hg (N:=6) ?hd (xs:=([(⟨qg7,qg8⟩:S25),(⟨qiW,qiX⟩:S25)]:List (S25))) (inner:=[.int .i64 qg7,.int .i64 qg8,.int .i64 qiW,.int .i64 qiX]) (ok:=fun _=>True) (okp:=fun _=>True) ?hr ?hp (fun _ hk=>hk) trivial (Below.refl _ _) (Nat.le_refl _) (by simp) ?_;(case hd=>rfl);(case hg=>rfl);(case hr=>first|(go_simp;done)|(go_simp;rfl));(case hp=>exact (Reps.c2 (show Kd.M k25 _ _ _ (⟨qg7,qg8⟩:S25) [.int .i64 qg7,.int .i64 qg8] from (Ux _ _ _ (⟨qg7,qg8⟩:S25) )) (Reps.c2 (show Kd.M k25 _ _ _ (⟨qiW,qiX⟩:S25) [.int .i64 qiW,.int .i64 qiX] from (Ux _ _ _ (⟨qiW,qiX⟩:S25) )) (Reps.none _ _))));intro qJ0 w11 qmN hb hg_ hnew_;clear hg_ hnew_;(first|rw [← qsz.out] at qmN|(simp only [Int.reduceToNat] at qmN;rw [← qsz.out] at qmN));have n0_:=Q0.mk (Kd.R_elder' (by (with_reducible repeat (first|apply Kd.R_alloc|apply Kd.R_drewN|apply Kd.R_drew));exact UM.out) (Kd.R_base qmN) hb);have n1_:=Q0.mk (Kd.R_lower (Kd.R_new' (Kd.R_newM (M:=fun k_=>(w.heap.size≤k_)) qmN (Qi (by repeat (first|(with_reducible first|exact HB.out|apply Q3|apply Q1|apply Q6)|exact HB.out))) (fun k_ h_=>h_)) (Kd.R_lt (by (with_reducible repeat (first|apply Kd.R_alloc|apply Kd.R_drewN|apply Kd.R_drew));exact UM.out))) (Qi (by repeat (first|(with_reducible first|exact HB.out|apply Q3|apply Q1|apply Q6)|exact HB.out))));have n2_:=Q0.mk (Qk (by repeat (first|(with_reducible first|exact HB.out|apply Q3|apply Q1|apply Q6)|exact HB.out)) hb);clear UM HB;have UM:=n0_;have qkV:=n1_;have HB:=n2_;clear n0_ n1_ n2_ hb qmN;obtain ⟨qvk,qwa,qE8⟩:=Kd.R_slice UM.out;subst qE8;obtain ⟨qvl,qwb,qE9⟩:=Kd.R_slice qkV.out;subst qE9)|((with_reducible refine QZ (N:=7) rfl ?_);refine Kd.N_lit (Kd.slice 25 k25) _ 32 ?hg (N':=7) ?hd (xs:=([qhu,qnt]:List (List (S25)))) (inner:=[.slice qvk qhu.length qwa,.slice qvl qnt.length qwb]) (ok:=(fun k_=>(w.heap.size≤k_))) (okp:=(fun k_=>(w.heap.size≤k_))) ?hr ?hp (fun _ hk=>hk) ((show ∀ k_,w11.heap.size≤k_→(fun k_=>(w.heap.size≤k_)) k_ from fun k_ hk=>(Nat.le_trans (Qi (by repeat (first|(with_reducible first|exact HB.out|apply Q3|apply Q1|apply Q6)|exact HB.out))) hk)) _ (Nat.le_refl _)) (Below.refl _ _) (Nat.le_refl _) (by simp) ?_;(case hd=>rfl);(case hg=>rfl);(case hr=>first|(go_simp;done)|(go_simp;rfl));(case hp=>exact (Reps.one (show Kd.FK (Kd.slice 25 k25) _ _ qhu [.slice qvk qhu.length qwa] from (Kd.FK_slice_mk (Kd.R_reads' (Kd.R_mono (ok':=(fun k_=>(w.heap.size≤k_))) (UM.out) (fun k_ hk=>hk.1.1))).2.1 (Kd.R_F (Kd.R_mono (ok':=(fun k_=>(w.heap.size≤k_))) (UM.out) (fun k_ hk=>hk.1.1))))) (Reps.one (show Kd.FK (Kd.slice 25 k25) _ _ qnt [.slice qvl qnt.length qwb] from (Kd.FK_slice_mk (Kd.R_reads' (Kd.R_mono (ok':=(fun k_=>(w.heap.size≤k_))) (qkV.out) (fun k_ hk=>hk.1.1))).2.1 (Kd.R_F (Kd.R_mono (ok':=(fun k_=>(w.heap.size≤k_))) (qkV.out) (fun k_ hk=>hk.1.1))))) (Reps.none _ _))));intro qJ1 w15 qoD hb hg_ hnew_;clear hg_ hnew_;(first|rw [← qsA.out] at qoD|(simp only [Int.reduceToNat] at qoD;rw [← qsA.out] at qoD));have n0_:=Q0.mk (Kd.N_lower qoD (Qi (by repeat (first|(with_reducible first|exact HB.out|apply Q3|apply Q1|apply Q6)|exact HB.out))));have n1_:=Q0.mk (Qk (by repeat (first|(with_reducible first|exact HB.out|apply Q3|apply Q1|apply Q6)|exact HB.out)) hb);clear HB UM qkV;have qvD:=n0_;have HB:=n1_;clear n0_ n1_ hb qoD))
 go_ret
 exact ⟨_,by first|rfl|(simp [Qx,Qy]<;>rfl)|(simp [*,Qx,Qy]<;>rfl),by (with_reducible repeat (first|apply Kd.N_alloc|apply Kd.N_drewN|apply Kd.N_drew));exact qvD.out,by repeat (first|(with_reducible first|exact HB.out|apply Q3|apply Q1|apply Q6)|exact HB.out)⟩
end
section
attribute [local go_sem] Ys Yu YG YH Yj Yk Yt Yv
def KH.f  : Option ((List (Jk))):=some (([(⟨50,8⟩:Jk),(⟨30,5⟩:Jk),(⟨20,1⟩:Jk),(⟨10,4⟩:Jk)]:List (Jk)))
set_option maxHeartbeats 8000000 in
set_option maxRecDepth 100000 in
theorem KH.calls  (r:List (Jk)) (w:World) (h:KH.f  = some r) :
  Calls Try.prog 62 #[] w fun e w' => ∃ v0_:Value,e = .returned (v0_)∧Kd.R qcm 136 w' w.heap.size (fun _=>True) v0_ r∧Below w.heap.size w w':=by
 have qoI:=Try.underlying136
 have HB:=Q0.mk (Below.refl w.heap.size w)
 have H:(some (([(⟨50,8⟩:Jk),(⟨30,5⟩:Jk),(⟨20,1⟩:Jk),(⟨10,4⟩:Jk)]:List (Jk))))=some r:=h
 clear h
 obtain ⟨qF8,qil⟩:∃ y_:List (Jk),y_=(([(⟨50,8⟩:Jk),(⟨30,5⟩:Jk),(⟨20,1⟩:Jk),(⟨10,4⟩:Jk)]:List (Jk))):=⟨_,rfl⟩
 replace H:(some qF8)=some r:=by first|(rw [qil];with_reducible exact H)|(have H2_:=(Option.bind_some _ _).symm.trans H;rw [qil];with_reducible exact H2_)|(have H2_:=(Option.bind_some _ _).symm.trans H;with_reducible exact H2_)|with_reducible exact H|(rw [qil];exact H)|exact H
 have qsB:=Q0.mk qil
 clear qil
 obtain rfl:=Option.some.inj H
 go_enter Try.func62,Try.ntmps62
 go_wp2_with (first|((with_reducible refine QZ (N:=5) rfl ?_);refine Kd.R_lit qcm _ 136 ?hg (N:=5) ?hd (xs:=([(⟨50,8⟩:Jk),(⟨30,5⟩:Jk),(⟨20,1⟩:Jk),(⟨10,4⟩:Jk)]:List (Jk))) (inner:=[.int .i64 50,.int .i64 8,.int .i64 30,.int .i64 5,.int .i64 20,.int .i64 1,.int .i64 10,.int .i64 4]) (ok:=fun _=>True) (okp:=fun _=>True) ?hr ?hp (fun _ hk=>hk) trivial (Below.refl _ _) (Nat.le_refl _) (by simp) ?_;(case hd=>rfl);(case hg=>rfl);(case hr=>first|(go_simp;done)|(go_simp;rfl));(case hp=>exact (Reps.c2 (show Kd.M qcm _ _ _ (⟨50,8⟩:Jk) [.int .i64 50,.int .i64 8] from (qcn _ _ _ (⟨50,8⟩:Jk) )) (Reps.c2 (show Kd.M qcm _ _ _ (⟨30,5⟩:Jk) [.int .i64 30,.int .i64 5] from (qcn _ _ _ (⟨30,5⟩:Jk) )) (Reps.c2 (show Kd.M qcm _ _ _ (⟨20,1⟩:Jk) [.int .i64 20,.int .i64 1] from (qcn _ _ _ (⟨20,1⟩:Jk) )) (Reps.c2 (show Kd.M qcm _ _ _ (⟨10,4⟩:Jk) [.int .i64 10,.int .i64 4] from (qcn _ _ _ (⟨10,4⟩:Jk) )) (Reps.none _ _))))));intro qJ2 w1 ho2 hb hg_ hnew_;clear hg_ hnew_;(first|rw [← qsB.out] at ho2|(simp only [Int.reduceToNat] at ho2;rw [← qsB.out] at ho2));have n0_:=Q0.mk (Kd.R_lower ho2 (Qi (by repeat (first|(with_reducible first|exact HB.out|apply Q3|apply Q1|apply Q6)|exact HB.out))));have n1_:=Q0.mk (Qk (by repeat (first|(with_reducible first|exact HB.out|apply Q3|apply Q1|apply Q6)|exact HB.out)) hb);clear HB;have qvE:=n0_;have HB:=n1_;clear n0_ n1_ hb ho2))
 go_ret
 exact ⟨_,by first|rfl|(simp [Qx,Qy]<;>rfl)|(simp [*,Qx,Qy]<;>rfl),by (with_reducible repeat (first|apply Kd.R_alloc|apply Kd.R_drewN|apply Kd.R_drew));exact qvE.out,by repeat (first|(with_reducible first|exact HB.out|apply Q3|apply Q1|apply Q6)|exact HB.out)⟩
end
section
attribute [local go_sem] Ys Yu YG YH Yj Yk Yt Yv
def GY.f  : Option ((List (List Int))):=some (([(([0,1]:List Int)),(([1,2]:List Int)),(([2,3]:List Int))]:List (List Int)))
set_option maxHeartbeats 8000000 in
set_option maxRecDepth 100000 in
theorem GY.calls  (r:List (List Int)) (w:World) (h:GY.f  = some r) :
  Calls Try.prog 63 #[] w fun e w' => ∃ v0_:Value,e = .returned (v0_)∧Kd.N (Kd.slice 3 (Kd.int .i64)) 37 w' w.heap.size (fun k_=>(w.heap.size≤k_)) v0_ r∧Below w.heap.size w w':=by
 have HB:=Q0.mk (Below.refl w.heap.size w)
 have H:(some (([(([0,1]:List Int)),(([1,2]:List Int)),(([2,3]:List Int))]:List (List Int))))=some r:=h
 clear h
 obtain ⟨qi7,qim⟩:∃ y_:List Int,y_=(([0,1]:List Int)):=⟨_,rfl⟩
 replace H:(some (([qi7,(([1,2]:List Int)),(([2,3]:List Int))]:List (List Int))))=some r:=by first|(rw [qim];with_reducible exact H)|(have H2_:=(Option.bind_some _ _).symm.trans H;rw [qim];with_reducible exact H2_)|(have H2_:=(Option.bind_some _ _).symm.trans H;with_reducible exact H2_)|with_reducible exact H|(rw [qim];exact H)|exact H
 have qsC:=Q0.mk qim
 clear qim
 obtain ⟨qkK,qin⟩:∃ y_:List Int,y_=(([1,2]:List Int)):=⟨_,rfl⟩
 replace H:(some (([qi7,qkK,(([2,3]:List Int))]:List (List Int))))=some r:=by first|(rw [qin];with_reducible exact H)|(have H2_:=(Option.bind_some _ _).symm.trans H;rw [qin];with_reducible exact H2_)|(have H2_:=(Option.bind_some _ _).symm.trans H;with_reducible exact H2_)|with_reducible exact H|(rw [qin];exact H)|exact H
 have qsD:=Q0.mk qin
 clear qin
 obtain ⟨qnu,qio⟩:∃ y_:List Int,y_=(([2,3]:List Int)):=⟨_,rfl⟩
 replace H:(some (([qi7,qkK,qnu]:List (List Int))))=some r:=by first|(rw [qio];with_reducible exact H)|(have H2_:=(Option.bind_some _ _).symm.trans H;rw [qio];with_reducible exact H2_)|(have H2_:=(Option.bind_some _ _).symm.trans H;with_reducible exact H2_)|with_reducible exact H|(rw [qio];exact H)|exact H
 have qsE:=Q0.mk qio
 clear qio
 obtain ⟨qF9,qip⟩:∃ y_:List (List Int),y_=(([qi7,qkK,qnu]:List (List Int))):=⟨_,rfl⟩
 replace H:(some qF9)=some r:=by first|(rw [qip];with_reducible exact H)|(have H2_:=(Option.bind_some _ _).symm.trans H;rw [qip];with_reducible exact H2_)|(have H2_:=(Option.bind_some _ _).symm.trans H;with_reducible exact H2_)|with_reducible exact H|(rw [qip];exact H)|exact H
 have qsF:=Q0.mk qip
 clear qip
 obtain rfl:=Option.some.inj H
 go_enter Try.func63,Try.ntmps63
 go_wp2_with (first|((with_reducible refine QZ (N:=1) rfl ?_);refine Kd.R_lit (Kd.int .i64) _ 3 ?hg (N:=1) ?hd (xs:=([0,1]:List Int)) (inner:=[.int .i64 0,.int .i64 1]) (ok:=fun _=>True) (okp:=fun _=>True) ?hr ?hp (fun _ hk=>hk) trivial (Below.refl _ _) (Nat.le_refl _) (by simp) ?_;(case hd=>rfl);(case hg=>rfl);(case hr=>first|(go_simp;done)|(go_simp;rfl));(case hp=>exact (Reps.one (show Kd.M (Kd.int .i64) _ _ _ 0 [.int .i64 0] from rfl) (Reps.one (show Kd.M (Kd.int .i64) _ _ _ 1 [.int .i64 1] from rfl) (Reps.none _ _))));intro qJ3 w1 ho2 hb hg_ hnew_;clear hg_ hnew_;(first|rw [← qsC.out] at ho2|(simp only [Int.reduceToNat] at ho2;rw [← qsC.out] at ho2));have n0_:=Q0.mk (Kd.R_lower (Kd.R_newM (M:=fun k_=>(w.heap.size≤k_)) ho2 (Qi (by repeat (first|(with_reducible first|exact HB.out|apply Q3|apply Q1|apply Q6)|exact HB.out))) (fun k_ h_=>h_)) (Qi (by repeat (first|(with_reducible first|exact HB.out|apply Q3|apply Q1|apply Q6)|exact HB.out))));have n1_:=Q0.mk (Qk (by repeat (first|(with_reducible first|exact HB.out|apply Q3|apply Q1|apply Q6)|exact HB.out)) hb);clear HB;have Xy:=n0_;have HB:=n1_;clear n0_ n1_ hb ho2)|((with_reducible refine QZ (N:=2) rfl ?_);refine Kd.R_lit (Kd.int .i64) _ 3 ?hg (N:=2) ?hd (xs:=([1,2]:List Int)) (inner:=[.int .i64 1,.int .i64 2]) (ok:=fun _=>True) (okp:=fun _=>True) ?hr ?hp (fun _ hk=>hk) trivial (Below.refl _ _) (Nat.le_refl _) (by simp) ?_;(case hd=>rfl);(case hg=>rfl);(case hr=>first|(go_simp;done)|(go_simp;rfl));(case hp=>exact (Reps.one (show Kd.M (Kd.int .i64) _ _ _ 1 [.int .i64 1] from rfl) (Reps.one (show Kd.M (Kd.int .i64) _ _ _ 2 [.int .i64 2] from rfl) (Reps.none _ _))));intro qJ4 w3 ho4 hb hg_ hnew_;clear hg_ hnew_;(first|rw [← qsD.out] at ho4|(simp only [Int.reduceToNat] at ho4;rw [← qsD.out] at ho4));have n0_:=Q0.mk (Kd.R_elder' (by (with_reducible repeat (first|apply Kd.R_alloc|apply Kd.R_drewN|apply Kd.R_drew));exact Xy.out) (Kd.R_base ho4) hb);have n1_:=Q0.mk (Kd.R_lower (Kd.R_new' (Kd.R_newM (M:=fun k_=>(w.heap.size≤k_)) ho4 (Qi (by repeat (first|(with_reducible first|exact HB.out|apply Q3|apply Q1|apply Q6)|exact HB.out))) (fun k_ h_=>h_)) (Kd.R_lt (by (with_reducible repeat (first|apply Kd.R_alloc|apply Kd.R_drewN|apply Kd.R_drew));exact Xy.out))) (Qi (by repeat (first|(with_reducible first|exact HB.out|apply Q3|apply Q1|apply Q6)|exact HB.out))));have n2_:=Q0.mk (Qk (by repeat (first|(with_reducible first|exact HB.out|apply Q3|apply Q1|apply Q6)|exact HB.out)) hb);clear Xy HB;have Xy:=n0_;have qcR:=n1_;have HB:=n2_;clear n0_ n1_ n2_ hb ho4)|((with_reducible refine QZ (N:=3) rfl ?_);refine Kd.R_lit (Kd.int .i64) _ 3 ?hg (N:=3) ?hd (xs:=([2,3]:List Int)) (inner:=[.int .i64 2,.int .i64 3]) (ok:=fun _=>True) (okp:=fun _=>True) ?hr ?hp (fun _ hk=>hk) trivial (Below.refl _ _) (Nat.le_refl _) (by simp) ?_;(case hd=>rfl);(case hg=>rfl);(case hr=>first|(go_simp;done)|(go_simp;rfl));(case hp=>exact (Reps.one (show Kd.M (Kd.int .i64) _ _ _ 2 [.int .i64 2] from rfl) (Reps.one (show Kd.M (Kd.int .i64) _ _ _ 3 [.int .i64 3] from rfl) (Reps.none _ _))));intro qJ5 w5 ho6 hb hg_ hnew_;clear hg_ hnew_;(first|rw [← qsE.out] at ho6|(simp only [Int.reduceToNat] at ho6;rw [← qsE.out] at ho6));have n0_:=Q0.mk (Kd.R_elder' (by (with_reducible repeat (first|apply Kd.R_alloc|apply Kd.R_drewN|apply Kd.R_drew));exact Xy.out) (Kd.R_base ho6) hb);have n1_:=Q0.mk (Kd.R_elder' (by (with_reducible repeat (first|apply Kd.R_alloc|apply Kd.R_drewN|apply Kd.R_drew));exact qcR.out) (Kd.R_base ho6) hb);have n2_:=Q0.mk (Kd.R_lower (Kd.R_new' (Kd.R_new' (Kd.R_newM (M:=fun k_=>(w.heap.size≤k_)) ho6 (Qi (by repeat (first|(with_reducible first|exact HB.out|apply Q3|apply Q1|apply Q6)|exact HB.out))) (fun k_ h_=>h_)) (Kd.R_lt (by (with_reducible repeat (first|apply Kd.R_alloc|apply Kd.R_drewN|apply Kd.R_drew));exact Xy.out))) (Kd.R_lt (by (with_reducible repeat (first|apply Kd.R_alloc|apply Kd.R_drewN|apply Kd.R_drew));exact qcR.out))) (Qi (by repeat (first|(with_reducible first|exact HB.out|apply Q3|apply Q1|apply Q6)|exact HB.out))));have n3_:=Q0.mk (Qk (by repeat (first|(with_reducible first|exact HB.out|apply Q3|apply Q1|apply Q6)|exact HB.out)) hb);clear Xy qcR HB;have Xy:=n0_;have qcR:=n1_;have qkW:=n2_;have HB:=n3_;clear n0_ n1_ n2_ n3_ hb ho6;obtain ⟨Ao7,co7,eo7⟩:=Kd.R_slice Xy.out;subst eo7;obtain ⟨Ao8,co8,eo8⟩:=Kd.R_slice qcR.out;subst eo8;obtain ⟨Ao9,co9,eo9⟩:=Kd.R_slice qkW.out;subst eo9)|((with_reducible refine QZ (N:=4) rfl ?_);refine Kd.N_lit (Kd.slice 3 (Kd.int .i64)) _ 37 ?hg (N':=4) ?hd (xs:=([qi7,qkK,qnu]:List (List Int))) (inner:=[.slice Ao7 qi7.length co7,.slice Ao8 qkK.length co8,.slice Ao9 qnu.length co9]) (ok:=(fun k_=>(w.heap.size≤k_))) (okp:=(fun k_=>(w.heap.size≤k_))) ?hr ?hp (fun _ hk=>hk) ((show ∀ k_,w5.heap.size≤k_→(fun k_=>(w.heap.size≤k_)) k_ from fun k_ hk=>(Nat.le_trans (Qi (by repeat (first|(with_reducible first|exact HB.out|apply Q3|apply Q1|apply Q6)|exact HB.out))) hk)) _ (Nat.le_refl _)) (Below.refl _ _) (Nat.le_refl _) (by simp) ?_;(case hd=>rfl);(case hg=>rfl);(case hr=>first|(go_simp;done)|(go_simp;rfl));(case hp=>exact (Reps.one (show Kd.FK (Kd.slice 3 (Kd.int .i64)) _ _ qi7 [.slice Ao7 qi7.length co7] from (Kd.FK_slice_mk (Kd.R_reads' (Kd.R_mono (ok':=(fun k_=>(w.heap.size≤k_))) (Xy.out) (fun k_ hk=>hk.1.1.1))).2.1 (Kd.R_F (Kd.R_mono (ok':=(fun k_=>(w.heap.size≤k_))) (Xy.out) (fun k_ hk=>hk.1.1.1))))) (Reps.one (show Kd.FK (Kd.slice 3 (Kd.int .i64)) _ _ qkK [.slice Ao8 qkK.length co8] from (Kd.FK_slice_mk (Kd.R_reads' (Kd.R_mono (ok':=(fun k_=>(w.heap.size≤k_))) (qcR.out) (fun k_ hk=>hk.1.1.1))).2.1 (Kd.R_F (Kd.R_mono (ok':=(fun k_=>(w.heap.size≤k_))) (qcR.out) (fun k_ hk=>hk.1.1.1))))) (Reps.one (show Kd.FK (Kd.slice 3 (Kd.int .i64)) _ _ qnu [.slice Ao9 qnu.length co9] from (Kd.FK_slice_mk (Kd.R_reads' (Kd.R_mono (ok':=(fun k_=>(w.heap.size≤k_))) (qkW.out) (fun k_ hk=>hk.1.1.1))).2.1 (Kd.R_F (Kd.R_mono (ok':=(fun k_=>(w.heap.size≤k_))) (qkW.out) (fun k_ hk=>hk.1.1.1))))) (Reps.none _ _)))));intro qJ6 w10 qoB hb hg_ hnew_;clear hg_ hnew_;(first|rw [← qsF.out] at qoB|(simp only [Int.reduceToNat] at qoB;rw [← qsF.out] at qoB));have n0_:=Q0.mk (Kd.N_lower qoB (Qi (by repeat (first|(with_reducible first|exact HB.out|apply Q3|apply Q1|apply Q6)|exact HB.out))));have n1_:=Q0.mk (Qk (by repeat (first|(with_reducible first|exact HB.out|apply Q3|apply Q1|apply Q6)|exact HB.out)) hb);clear HB Xy qcR qkW;have qvF:=n0_;have HB:=n1_;clear n0_ n1_ hb qoB))
 go_ret
 exact ⟨_,by first|rfl|(simp [Qx,Qy]<;>rfl)|(simp [*,Qx,Qy]<;>rfl),by (with_reducible repeat (first|apply Kd.N_alloc|apply Kd.N_drewN|apply Kd.N_drew));exact qvF.out,by repeat (first|(with_reducible first|exact HB.out|apply Q3|apply Q1|apply Q6)|exact HB.out)⟩
end
section
set_option maxRecDepth 100000
def qes:List S68:=[⟨30,⟨2,2⟩⟩,⟨20,⟨3,4⟩⟩,⟨10,⟨4,6⟩⟩]
def qfN:List (List S25):=[[⟨60,70⟩,⟨30,40⟩],[⟨20,30⟩,⟨70,80⟩]]
def qjw:List S25:=[⟨45,50⟩,⟨50,55⟩]
def qeq:S39:=⟨[100,50,20],[800,700,500],[0,1,2],60,1⟩
def qer:S39:=⟨[60,60],[500,500],[1,1],50,0⟩
def qoj:List Jk:=[⟨50,8⟩,⟨30,5⟩,⟨20,1⟩,⟨10,4⟩]
def qfM:List (List Int):=[[0,1],[1,2],[2,3]]
def WE:List (List (List Int)):=[[[90,80],[10,10]],[[0,0],[0,0]]]
theorem qmI:Gt.f=some qes:=by kernel_rfl
theorem qoq:GZ.f=some qfN:=by kernel_rfl
theorem qp0:Kt.f=some qjw:=by kernel_rfl
theorem qmH:Jh.f=some ([100,50,20],[800,700,500],[0,1,2],60,1):=by kernel_rfl
theorem qet:JQ.f=some ([qeq,qer],[40,80],WE):=by kernel_rfl
theorem qtW:KH.f=some qoj:=by kernel_rfl
theorem qop:GY.f=some qfM:=by kernel_rfl
theorem qpY:Y4.f 40 qes 4 6=some (10,30,0):=by kernel_rfl
theorem qpZ:Qw.f 20 [100,50,20] [800,700,500] [0,1,2] 60 1 [30,30] [90,80]=some ([40,78],0):=by kernel_rfl
theorem qom:Yy.f 40 [qeq,qer] [40,80] WE=some (7,0):=by kernel_rfl
theorem qol:QO.f 40 [qeq,qer] [40,80] WE 8=some (1,1,1,0):=by kernel_rfl
theorem qon:Z8.f 10 [40,78] [40,78]=some true:=by kernel_rfl
theorem qoo:Z8.f 10 [0,2] [0,2]=some true:=by kernel_rfl
theorem qfO:YY.f 10 [⟨38,75⟩,⟨25,62⟩] [⟨38,75⟩,⟨25,62⟩]=some true:=by kernel_rfl
theorem qok:QG.f qoj qfM 2=some ([0,2],110,18,0):=by kernel_rfl
theorem qmG:QB.f 20 qfN qjw=some ([⟨38,75⟩,⟨25,62⟩],0):=by kernel_rfl
end
section
attribute [local go_sem high] qog
def QV.f:Option Bool:=some true
structure qnU (p:Prop):Prop where
 out:p
theorem V_C {α:Type} {d:Kd α} {e:Nat} {w:World} {b:Nat} {ok:Nat→Prop} {v:Value} {xs:List α} (h:Kd.V d e w b ok v xs):∃ A c,v = .slice A xs.length c∧xs.length≤c∧Kd.C d w A xs.length xs:=by
 obtain ⟨A,c,hv,hl,hf⟩:=h
 exact ⟨A,c,hv,hl,Kd.F_now hf⟩
theorem qhJ {W:World} {o:Obj} {k:Nat} (h:W.heap.size=k):(W.alloc o).heap[k]? = some o:=by subst h;exact World.alloc_heap_new W o
theorem qkL {W:World} {g:Nat} {a b:Int} (h:W.heap[g]? = some (.cells #[.int .i64 a,.int .i64 b] 3 (0,0))):Kd.C (Kd.int .i64) W (some ⟨g,0,none⟩) 2 [a,b]:=by
 refine ⟨rfl,by decide,fun _=>⟨_,rfl,fun j p hj=>⟨[.int .i64 p],rfl,rfl,fun i u hu => ?_⟩⟩⟩
 have hj2:j<2:=(List.getElem?_eq_some_iff.1 hj).1
 have hi:i=0:=by have:=(List.getElem?_eq_some_iff.1 hu).1;simpa using this
 subst hi
 have hu2:Value.int .i64 p=u:=by simpa using hu
 rw [Wz,Q8 h]
 subst hu2
 match j,hj2,hj with
 | 0,_,hj=>cases hj;rfl
 | 1,_,hj=>cases hj;rfl
theorem qpq {W:World} {g:Nat} {a b a' b':Int} (h:W.heap[g]? = some (.cells #[.int .i64 a,.int .i64 b,.int .i64 a',.int .i64 b'] 25 (0,0))):Kd.C k25 W (some ⟨g,0,none⟩) 2 [⟨a,b⟩,⟨a',b'⟩]:=by
 refine ⟨rfl,by decide,fun _=>⟨_,rfl,fun j p hj=>⟨[.int .i64 p.f0,.int .i64 p.f1],rfl,qt8 _ _,fun i u hu => ?_⟩⟩⟩
 have hj2:j<2:=(List.getElem?_eq_some_iff.1 hj).1
 have hi:i<2:=(List.getElem?_eq_some_iff.1 hu).1
 rw [Wz,Q8 h]
 match j,hj2,hj,i,hi,hu with
 | 0,_,hj,0,_,hu=>cases hj;cases hu;rfl
 | 0,_,hj,1,_,hu=>cases hj;cases hu;rfl
 | 1,_,hj,0,_,hu=>cases hj;cases hu;rfl
 | 1,_,hj,1,_,hu=>cases hj;cases hu;rfl
set_option maxHeartbeats 8000000 in
set_option maxRecDepth 100000 in
theorem QV.calls (r:Bool) (w:World) (h:QV.f=some r) :
  Calls Try.prog 21 #[] w fun e w'=>e = .returned (.bool r)∧Below w.heap.size w w':=by
 obtain rfl:true=r:=Option.some.inj h
 clear h
 have qc8:=Try.underlying25
 go_enter Try.func21,Try.ntmps21
 have B0:=Below.refl w.heap.size w
 go_wp2_with (first
  | (go_at_call 59;refine (Gt.calls _ _ qmI).mono ?_;rintro e w1 ⟨v,rfl,hv,hb1⟩;obtain ⟨A1,c1,rfl,hc1,hC1⟩:=Kd.R_reads hv;have B1:=B0.trans (hb1.mono B0.size);clear hv hb1)
  | (go_at_call 19;refine (Y4.calls 40 A1 c1 qes 4 6 10 30 0 _ hC1 hc1 qpY).mono ?_;rintro e w2 ⟨rfl,hb2⟩;have B2:=B1.trans (hb2.mono B1.size);clear hC1 hc1 hb2)
  | (go_at_call 61;refine (GZ.calls _ _ qoq).mono ?_;rintro e w3 ⟨v,rfl,hv,hb3⟩;obtain ⟨A3,c3,rfl,hc3,hC3⟩:=Kd.N_reads hv;have B3:=(Q3 B2 _).trans (hb3.mono (Q3 B2 _).size);have K3:=Qf (World.alloc_heap_new w2 _) hb3;clear hv)
  | (go_at_call 60;refine (Kt.calls _ _ qp0).mono ?_;rintro e w4 ⟨v,rfl,hv,hb4⟩;obtain ⟨A4,c4,rfl,hc4,hC4⟩:=Kd.R_reads hv;have B4:=B3.trans (hb4.mono B3.size);have qwo:=Kd.C_below hC3 hb4;have K4:=Qf K3 hb4;clear hv)
  | (go_at_call 22;refine (QB.calls 20 A3 c3 qfN A4 c4 qjw [⟨38,75⟩,⟨25,62⟩] 0 _ qwo hc3 hC4 hc4 qmG).mono ?_;rintro e w5 ⟨v,rfl,hv,hb5⟩;obtain ⟨A5,c5,rfl,hc5,hC5⟩:=V_C hv;have B5:=B4.trans (hb5.mono B4.size);have K5:=Qf K4 hb5;clear K3 K4 hC3 qwo hC4 hc3 hc4 hv hb3 hb4 hb5)
  | (go_at_call 57;refine (Jh.calls _ _ _ _ _ _ qmH).mono ?_;rintro e w6 ⟨u0,u1,u2,rfl,h0,h1,h2,hb6⟩;obtain ⟨A60,c60,rfl,qwA,qwt⟩:=Kd.R_reads h0;obtain ⟨A61,c61,rfl,qwB,qwu⟩:=Kd.R_reads h1;obtain ⟨A62,c62,rfl,qwC,qwv⟩:=Kd.R_reads h2;have B6:=B5.trans (hb6.mono B5.size);have K6:=Qf K5 hb6;have qwp:=Kd.C_below hC5 hb6;clear K5 h0 h1 h2 hC5 hb6)
  | (go_at_call 25;refine (Qw.calls 20 A60 c60 [100,50,20] A61 c61 [800,700,500] A62 c62 [0,1,2] 60 1 _ 2 [30,30] _ 2 [90,80] [40,78] 0 _ ?q1 qwA ?q2 qwB ?q3 qwC ?q4 (Nat.le_refl 2) ?q5 (Nat.le_refl 2) qpZ).mono ?_;(case q1=>exact Kd.C_alloc (Kd.C_alloc qwt _) _);(case q2=>exact Kd.C_alloc (Kd.C_alloc qwu _) _);(case q3=>exact Kd.C_alloc (Kd.C_alloc qwv _) _);(case q4=>exact qkL (Q2 (World.alloc_heap_new w6 _) _));(case q5=>refine qkL ?_;(have:=World.alloc_heap_new (w6.alloc (.cells #[.int .i64 30,.int .i64 30] 3)) (.cells #[.int .i64 90,.int .i64 80] 3));rwa [World.size_alloc] at this);rintro e w7 ⟨v,rfl,hv,hb7⟩;obtain ⟨A7,c7,rfl,hc7,hC7⟩:=V_C hv;have B7:=(Q3 (Q3 B6 _) _).trans (hb7.mono (Q3 (Q3 B6 _) _).size);have K7:=Qf (Q2 (Q2 K6 _) _) hb7;have qwq:=Kd.C_below (Kd.C_alloc (Kd.C_alloc qwp _) _) hb7;clear qwt qwu qwv qwA qwB qwC qwp K6 hv hb7)
  | (go_at_call 58;refine (JQ.calls _ _ _ _ qet).mono ?_;rintro e w8 ⟨u0,u1,u2,rfl,h0,h1,h2,hb8⟩;obtain ⟨A80,c80,rfl,qow,qot⟩:=Kd.N_reads h0;obtain ⟨A81,c81,rfl,qox,qou⟩:=Kd.R_reads h1;obtain ⟨A82,c82,rfl,qoy,qov⟩:=Kd.N_reads h2;have B8:=B7.trans (hb8.mono B7.size);have K8:=Qf K7 hb8;have qwr:=Kd.C_below qwq hb8;have qwx:=Kd.C_below hC7 hb8;clear h0 h1 h2 qwq hC7 K7 hb8)
  | (go_at_call 28;refine (Yy.calls 40 A80 c80 [qeq,qer] A81 c81 [40,80] A82 c82 WE 7 0 _ qot qow qou qox qov qoy qom).mono ?_;rintro e w9 ⟨rfl,hb9⟩;have B9:=B8.trans (hb9.mono B8.size);have K9:=Qf K8 hb9;have qws:=Kd.C_below qwr hb9;have qwy:=Kd.C_below qwx hb9;clear qot qou qov qow qox qoy qwr qwx K8 hb9))
 have hSb:∀ z:World,Below w9.heap.size w9 z→z.cell? ⟨w2.heap.size,0,none⟩=some (.int .i64 10)∧z.cell? ⟨w2.heap.size,1,none⟩=some (.int .i64 30)∧Below w9.heap.size w9 z:=fun z hz =>
  ⟨(Q8 (Qf K9 hz) 0).trans rfl,(Q8 (Qf K9 hz) 1).trans rfl,hz⟩
 have HSb:=Q0.mk hSb
 have H59:=Q0.mk qws
 have H79:=Q0.mk qwy
 have HB9:=Q0.mk B9
 clear hSb qws qwy B0 B1 B2 B3 B4 B5 B6 B7 B8 B9 K9
 go_region_held3 (fun z=>z.cell? ⟨w2.heap.size,0,none⟩=some (.int .i64 10)∧z.cell? ⟨w2.heap.size,1,none⟩=some (.int .i64 30)∧Below w9.heap.size w9 z)
  (first|exact HSb.out _ (Yx (Below.refl _ _))|(refine HSb.out _ (Q3 ?hk _);(case hk=>exact (And.right (And.right ‹_∧_∧Below w9.heap.size w9 _›))))|(refine HSb.out _ (Q1 ?hk _);(case hk=>exact (And.right (And.right ‹_∧_∧Below w9.heap.size w9 _›))))|(refine HSb.out _ (Below.trans ?hk1 (hbz.mono ?hk2));(case hk1=>exact (And.right (And.right ‹_∧_∧Below w9.heap.size w9 _›)));(case hk2=>exact (And.right (And.right ‹_∧_∧Below w9.heap.size w9 _›)).size)))
  (first
   | (go_at_call 43;refine (QN.calls _ _ _ _ _ rfl).mono ?_;rintro e wz ⟨rfl,hbz⟩)
   | (go_at_call 24;refine (YY.calls 10 A5 c5 [⟨38,75⟩,⟨25,62⟩] _ 2 [⟨38,75⟩,⟨25,62⟩] true _ ?q1 hc5 ?q2 (Nat.le_refl 2) qfO).mono ?_;(case q1=>refine Kd.C_below H59.out ?hk;(case hk=>exact (And.right (And.right ‹_∧_∧Below w9.heap.size w9 _›))));(case q2=>refine qpq ?_;exact World.alloc_heap_new _ _);rintro e wz ⟨rfl,⟨nd,rfl⟩⟩)
   | (go_at_call 27;refine (Z8.calls 10 A7 c7 [40,78] _ 2 [40,78] true _ ?q1 hc7 ?q2 (Nat.le_refl 2) qon).mono ?_;(case q1=>refine Kd.C_below H79.out ?hk;(case hk=>exact (And.right (And.right ‹_∧_∧Below w9.heap.size w9 _›))));(case q2=>refine qkL (qhJ ?hs);(case hs=>first|rfl|exact World.size_alloc _ _));rintro e wz ⟨rfl,⟨nd,rfl⟩⟩))
 go_wp2_with (go_at_call 58;refine qnU.out ?_)
 refine qnU.mk ?_
 refine (JQ.calls _ _ _ _ qet).mono ?_
 rintro e wa ⟨u0,u1,u2,rfl,h0,h1,h2,hba⟩
 have Ba:Below w.heap.size w wa:=by
  refine Below.trans ?_ (hba.mono ?_)
  ·
   exact HB9.out.trans ((And.right (And.right ‹_∧_∧Below w9.heap.size w9 _›)).mono HB9.out.size)
  ·
   exact (HB9.out.trans ((And.right (And.right ‹_∧_∧Below w9.heap.size w9 _›)).mono HB9.out.size)).size
 obtain ⟨A80,c80,rfl,qow,qot⟩:=Kd.N_reads h0
 obtain ⟨A81,c81,rfl,qox,qou⟩:=Kd.R_reads h1
 obtain ⟨A82,c82,rfl,qoy,qov⟩:=Kd.N_reads h2
 clear h0 h1 h2 hba
 go_wp2_with (first
  | (go_at_call 32;refine (QO.calls 40 A80 c80 [qeq,qer] A81 c81 [40,80] A82 c82 WE 8 1 1 1 0 _ qot qow qou qox qov qoy qol).mono ?_;rintro e wb ⟨rfl,hbb⟩;have Bb:=Ba.trans (hbb.mono Ba.size);clear qot qou qov qow qox qoy hbb)
  | (go_at_call 62;refine (KH.calls _ _ qtW).mono ?_;rintro e wc ⟨v,rfl,hv,hbc⟩;obtain ⟨Ac,cc,rfl,hcc,hCc⟩:=Kd.R_reads hv;have Bc:=Bb.trans (hbc.mono Bb.size);clear hv hbc)
  | (go_at_call 63;refine (GY.calls _ _ qop).mono ?_;rintro e wd ⟨v,rfl,hv,hbd⟩;obtain ⟨Ad,cd,rfl,hcd,hCd⟩:=Kd.N_reads hv;have Bd:=Bc.trans (hbd.mono Bc.size);have hCc':=Kd.C_below hCc hbd;clear hv hbd hCc)
  | (go_at_call 40;refine (QG.calls Ac cc qoj Ad cd qfM 2 [0,2] 110 18 0 _ hCc' hcc hCd hcd qok).mono ?_;rintro e we ⟨v,rfl,hv,hbe⟩;obtain ⟨Ae,ce,rfl,hce,hCe⟩:=V_C hv;have Be:=Bd.trans (hbe.mono Bd.size);clear hv hbe hCc' hCd hcc hcd)
  | (go_at_call 27;refine (Z8.calls 10 Ae ce [0,2] _ 2 [0,2] true _ ?q1 hce ?q2 (Nat.le_refl 2) qoo).mono ?_;(case q1=>exact Kd.C_alloc hCe _);(case q2=>refine qkL (qhJ ?hs);(case hs=>rfl));rintro e wf ⟨rfl,⟨ndf,rfl⟩⟩))
 go_ret
 exact ⟨rfl,Q1 (Q3 Be _) _⟩
end
section
attribute [local go_sem] Ys Yu YG YH Yj Yk Yt Yv
mutual
def Qg.j0:Nat→List Int→Int→Int→Int→Bool→List (S39)→List Int→List (List (List Int))→Int→Int→Option (Bool)
 | 0,_,_,_,_,_,_,_,_,_,_=>none
 | k+1,x2,x7,x8,x12,x36,GF,KI,Gr,qd8,qd9=>if x36=true then (if x7=0 then (if x8=4 then (if x12=0 then ((QV.f).bind fun qi0=>(some qi0)) else (if x8=0 then (some false) else (if x8=x12 then ((QV.f).bind fun qi2=>(some qi2)) else (some false)))) else (if x8=0 then (some false) else (if x8=x12 then ((QV.f).bind fun qi3=>(some qi3)) else (some false)))) else (some false)) else ((Qr.f x7 0 10000).bind fun qnk=>(if qnk=true then (Qg.j1 k x2 x7 (x12 != 4) GF KI Gr qd8 qd9) else (Qg.j1 k x2 x7 true GF KI Gr qd8 qd9)))
def Qg.j1:Nat→List Int→Int→Bool→List (S39)→List Int→List (List (List Int))→Int→Int→Option (Bool)
 | 0,_,_,_,_,_,_,_,_=>none
 | k+1,x2,x7,x65,GF,KI,Gr,qd8,qd9=>if x65=true then (some false) else ((QO.f k GF KI Gr x7).bind fun qhO=>((Y6.f qd8 (GF.length:Int)).bind fun ZU=>((Y6.f qd9 (Gr.length:Int)).bind fun Gc=>((QF.f k GF KI Gr ZU Gc x7 x2).bind fun JP=>(if qhO.2.2.2=4 then (if JP.2=0 then (if 0≤Gc then (if Gc<(Gr.length:Int) then (if 0≤ZU then (if ZU<((Qq Gr Gc).length:Int) then (Qg.j2 k x7 ZU JP.1 ((JP.1.length:Int) != ((QM (Qq Gr Gc) ZU).length:Int)) GF KI Gr) else (none)) else (none)) else (none)) else (none)) else (Qg.j2 k x7 ZU JP.1 true GF KI Gr)) else (Qg.j2 k x7 ZU JP.1 true GF KI Gr))))))
def Qg.j2:Nat→Int→Int→List Int→Bool→List (S39)→List Int→List (List (List Int))→Option (Bool)
 | 0,_,_,_,_,_,_,_=>none
 | k+1,x7,x13,x15,x114,GF,KI,Gr=>if x114=true then (some false) else (Qg.l0 k x7 x13 x15 0 GF KI Gr)
def Qg.l0:Nat→Int→Int→List Int→Int→List (S39)→List Int→List (List (List Int))→Option (Bool)
 | 0,_,_,_,_,_,_,_=>none
 | k+1,x7,x13,x15,x17,GF,KI,Gr=>if x17<(x15.length:Int) then (if 0≤x17 then (if 0≤x13 then (if x13<(GF.length:Int) then (if (rd x15 x17)<((Qc GF x13).f3) then (some false) else (Qg.l0 k x7 x13 x15 (wrap64 (x17+1)) GF KI Gr)) else (none)) else (none)) else (none)) else (if x7=10000 then ((QV.f).bind fun qi4=>(some qi4)) else ((QO.f k GF KI Gr (wrap64 (x7+1))).bind fun qn4=>(if qn4.2.2.2=0 then ((QV.f).bind fun qaQ=>(some qaQ)) else (some false))))
end
def Qg.f (k:Nat) (Qa:List (S39)) (Qe:List Int) (Qb:List (List (List Int))) (ZG:Int) (Zu:Int) (l2:List Int):Option (Bool):=(Yy.f k Qa Qe Qb).bind fun XL=>((QO.f k Qa Qe Qb 0).bind fun qcW=>(if XL.2=0 then ((Qd.f k Qa Qe Qb).bind fun qkx=>(Qg.j0 k l2 XL.1 XL.2 qcW.2.2.2 (!qkx) Qa Qe Qb ZG Zu)) else (Qg.j0 k l2 XL.1 XL.2 qcW.2.2.2 true Qa Qe Qb ZG Zu)))
set_option maxHeartbeats 8000000 in
set_option maxRecDepth 100000 in
theorem Qg.calls (k:Nat) (QC:Option Addr) (Qs:Nat) (Qa:List (S39)) (QA:Option Addr) (Qt:Nat) (Qe:List Int) (QE:Option Addr) (Qu:Nat) (Qb:List (List (List Int))) (ZG:Int) (Zu:Int) (A2:Option Addr) (c2:Nat) (l2:List Int) (r:Bool) (w:World) (JV:Kd.C k39 w QC Qa.length Qa) (G7:Qa.length≤Qs) (JW:Kd.C (Kd.int .i64) w QA Qe.length Qe) (G8:Qe.length≤Qt) (JX:Kd.C (Kd.slice 37 (Kd.slice 3 (Kd.int .i64))) w QE Qb.length Qb) (G9:Qb.length≤Qu) (hr2:Kd.C (Kd.int .i64) w A2 l2.length l2) (hc2:l2.length≤c2) (h:Qg.f k Qa Qe Qb ZG Zu l2=some r) :
  Calls Try.prog 14 #[.agg #[.slice QC Qa.length Qs,.slice QA Qe.length Qt,.slice QE Qb.length Qu],.agg #[.int .i64 ZG,.int .i64 Zu],.slice A2 l2.length c2] w fun e w'=>e = .returned (.bool r)∧Below w.heap.size w w':=by
 have qmS:=Try.underlying47
 have qJw:=Try.underlying23
 have Z5:=Q0.mk JV
 have ZD:=Q0.mk G7
 clear JV G7
 have Zj:=Q0.mk JW
 have ZE:=Q0.mk G8
 clear JW G8
 have Z6:=Q0.mk JX
 have ZF:=Q0.mk G9
 clear JX G9
 have HR2:=Q0.mk hr2
 have HC2:=Q0.mk hc2
 clear hr2 hc2
 have HB:=Q0.mk (Below.refl w.heap.size w)
 have H:((Yy.f k Qa Qe Qb).bind fun XL=>((QO.f k Qa Qe Qb 0).bind fun qcW=>(if XL.2=0 then ((Qd.f k Qa Qe Qb).bind fun qkx=>(Qg.j0 k l2 XL.1 XL.2 qcW.2.2.2 (!qkx) Qa Qe Qb ZG Zu)) else (Qg.j0 k l2 XL.1 XL.2 qcW.2.2.2 true Qa Qe Qb ZG Zu))))=some r:=h
 clear h
 replace H:=Option.bind_eq_some_iff.mp H
 obtain ⟨⟨Jb,Gi⟩,A40,H⟩:=H
 replace H:((QO.f k Qa Qe Qb 0).bind fun qcW=>(if Gi=0 then ((Qd.f k Qa Qe Qb).bind fun qkx=>(Qg.j0 k l2 Jb Gi qcW.2.2.2 (!qkx) Qa Qe Qb ZG Zu)) else (Qg.j0 k l2 Jb Gi qcW.2.2.2 true Qa Qe Qb ZG Zu)))=some r:=H
 have A4:=Q0.mk A40
 clear A40
 replace H:=Option.bind_eq_some_iff.mp H
 obtain ⟨⟨quL,quM,quN,Oz⟩,A50,H⟩:=H
 replace H:(if Gi=0 then ((Qd.f k Qa Qe Qb).bind fun qkx=>(Qg.j0 k l2 Jb Gi Oz (!qkx) Qa Qe Qb ZG Zu)) else (Qg.j0 k l2 Jb Gi Oz true Qa Qe Qb ZG Zu))=some r:=H
 have A5:=Q0.mk A50
 clear A50
 have HC6:=Q0.mk H
 clear H
 go_enter Try.func14,Try.ntmps14
 go_upto_region 3 with (first|((with_reducible refine QZ (N:=3) rfl ?_);(try (refine Jn (by rfl) ?_;dsimp only));refine Yp ?hg (N:=3) ?hd (cs:=#[.slice QC Qa.length Qs,.slice QA Qe.length Qt,.slice QE Qb.length Qu]) (t:=47) ?hr ?_;(case hd=>rfl);(case hg=>rfl);(case hr=>first|(go_simp;done)|(go_simp;rfl));intro Yn hg w7 hbox hb;have n0_:=Q0.mk (Qk (by repeat (first|(with_reducible first|exact HB.out|apply Q3|apply Q1|apply Q6)|exact HB.out)) hb);have n1_:=Q0.mk (hbox);have n2_:=Q0.mk ((by rw [hg];exact (Qi (by repeat (first|(with_reducible first|exact HB.out|apply Q3|apply Q1|apply Q6)|exact HB.out))):w.heap.size≤Yn));have n3_:=n2_;clear HB;have HB:=n0_;have Qz:=n1_;have qsb:=n2_;have YQ:=n3_;clear n0_ n1_ n2_ n3_ hb hbox hg)|((with_reducible refine QZ (N:=4) rfl ?_);(try (refine Jn (by rfl) ?_;dsimp only));refine Yp ?hg (N:=4) ?hd (cs:=#[.int .i64 ZG,.int .i64 Zu]) (t:=23) ?hr ?_;(case hd=>rfl);(case hg=>rfl);(case hr=>first|(go_simp;done)|(go_simp;rfl));intro Ze hg w8 hbox hb;have n0_:=Q0.mk (Qf (g:=Yn) (by (with_reducible repeat (first|refine Q4 ?_ _|refine Q7 ?_|refine Q2 ?_ _));exact Qz.out) hb);have n1_:=Q0.mk (Qk (by repeat (first|(with_reducible first|exact HB.out|apply Q3|apply Q1|apply Q6|refine Q5 ?_ YQ.out)|exact HB.out)) hb);have n2_:=Q0.mk (hbox);have n3_:=Q0.mk ((by rw [hg];exact (Qi (by repeat (first|(with_reducible first|exact HB.out|apply Q3|apply Q1|apply Q6|refine Q5 ?_ YQ.out)|exact HB.out))):w.heap.size≤Ze));have n4_:=n3_;have n5_:=Q0.mk ((by rw [hg];exact Nat.ne_of_lt (QT (g:=Yn) (by (with_reducible repeat (first|refine Q4 ?_ _|refine Q7 ?_|refine Q2 ?_ _));exact Qz.out)):Yn≠Ze));have n6_:=Q0.mk (n5_.out.symm);clear Qz HB;have Qz:=n0_;have HB:=n1_;have Yg:=n2_;have qsc:=n3_;have Z0:=n4_;have Gl:=n5_;have Gm:=n6_;clear n0_ n1_ n2_ n3_ n4_ n5_ n6_ hb hbox hg;have qxO:=Gl.out;have qx2:=Gm.out;have ZI:w8.cell? ⟨Yn,0,none⟩=some (.slice QC Qa.length Qs):=(Q8 Qz.out 0).trans rfl;have ZJ:w8.cell? ⟨Yn,1,none⟩=some (.slice QA Qe.length Qt):=(Q8 Qz.out 1).trans rfl;have ZP:w8.cell? ⟨Yn,2,none⟩=some (.slice QE Qb.length Qu):=(Q8 Qz.out 2).trans rfl;have ZK:=Q9 Qz.out 0;have ZL:=Q9 Qz.out 1;have ZQ:=Q9 Qz.out 2)|(go_at_call 28;(with_reducible refine (Yy.calls k _ _ Qa _ _ Qe _ _ Qb Jb Gi _ ?side1 ?side2 ?side3 ?side4 ?side5 ?side6 A4.out).mono ?_);(case side1=>repeat (first|exact (Kd.C_below Z5.out HB.out)|(with_reducible refine Kd.C_alloc ?_ _)|(with_reducible refine Kd.C_drewN ?_ _)|(with_reducible refine Kd.C_drew ?_)));(case side2=>exact ZD.out);(case side3=>repeat (first|exact (Kd.C_below Zj.out HB.out)|(with_reducible refine Kd.C_alloc ?_ _)|(with_reducible refine Kd.C_drewN ?_ _)|(with_reducible refine Kd.C_drew ?_)));(case side4=>exact ZE.out);(case side5=>repeat (first|exact (Kd.C_below Z6.out HB.out)|(with_reducible refine Kd.C_alloc ?_ _)|(with_reducible refine Kd.C_drewN ?_ _)|(with_reducible refine Kd.C_drew ?_)));(case side6=>exact ZF.out);rintro e w11 ⟨rfl,hb⟩;have n0_:=Q0.mk (Qf (g:=Yn) (by (with_reducible repeat (first|refine Q4 ?_ _|refine Q7 ?_|refine Q2 ?_ _));exact Qz.out) hb);have n1_:=Q0.mk (Qf (g:=Ze) (by (with_reducible repeat (first|refine Q4 ?_ _|refine Q7 ?_|refine Q2 ?_ _));exact Yg.out) hb);have n2_:=Q0.mk (Qk (by repeat (first|(with_reducible first|exact HB.out|apply Q3|apply Q1|apply Q6|refine Q5 ?_ YQ.out|refine Q5 ?_ Z0.out)|exact HB.out)) hb);clear Qz Yg HB;have Qz:=n0_;have Yg:=n1_;have HB:=n2_;clear n0_ n1_ n2_;(try clear hb);(try clear hb2);(try clear hk);(try clear hi);have Ju:w11.cell? ⟨Yn,0,none⟩=some (.slice QC Qa.length Qs):=(Q8 Qz.out 0).trans rfl;have Jv:w11.cell? ⟨Yn,1,none⟩=some (.slice QA Qe.length Qt):=(Q8 Qz.out 1).trans rfl;have JA:w11.cell? ⟨Yn,2,none⟩=some (.slice QE Qb.length Qu):=(Q8 Qz.out 2).trans rfl;have Jw:=Q9 Qz.out 0;have Jx:=Q9 Qz.out 1;have JC:=Q9 Qz.out 2)|(go_at_call 32;(with_reducible refine (QO.calls k _ _ Qa _ _ Qe _ _ Qb 0 quL quM quN Oz _ ?side1 ?side2 ?side3 ?side4 ?side5 ?side6 A5.out).mono ?_);(case side1=>repeat (first|exact (Kd.C_below Z5.out HB.out)|(with_reducible refine Kd.C_alloc ?_ _)|(with_reducible refine Kd.C_drewN ?_ _)|(with_reducible refine Kd.C_drew ?_)));(case side2=>exact ZD.out);(case side3=>repeat (first|exact (Kd.C_below Zj.out HB.out)|(with_reducible refine Kd.C_alloc ?_ _)|(with_reducible refine Kd.C_drewN ?_ _)|(with_reducible refine Kd.C_drew ?_)));(case side4=>exact ZE.out);(case side5=>repeat (first|exact (Kd.C_below Z6.out HB.out)|(with_reducible refine Kd.C_alloc ?_ _)|(with_reducible refine Kd.C_drewN ?_ _)|(with_reducible refine Kd.C_drew ?_)));(case side6=>exact ZF.out);rintro e w13 ⟨rfl,hb⟩;have n0_:=Q0.mk (Qf (g:=Yn) (by (with_reducible repeat (first|refine Q4 ?_ _|refine Q7 ?_|refine Q2 ?_ _));exact Qz.out) hb);have n1_:=Q0.mk (Qf (g:=Ze) (by (with_reducible repeat (first|refine Q4 ?_ _|refine Q7 ?_|refine Q2 ?_ _));exact Yg.out) hb);have n2_:=Q0.mk (Qk (by repeat (first|(with_reducible first|exact HB.out|apply Q3|apply Q1|apply Q6|refine Q5 ?_ YQ.out|refine Q5 ?_ Z0.out)|exact HB.out)) hb);clear Qz Yg HB;have Qz:=n0_;have Yg:=n1_;have HB:=n2_;clear n0_ n1_ n2_;(try clear hb);(try clear hb2);(try clear hk);(try clear hi)))
 repeat (go_quiet (first|((with_reducible refine QZ (N:=3) rfl ?_);(try (refine Jn (by rfl) ?_;dsimp only));refine Yp ?hg (N:=3) ?hd (cs:=#[.slice QC Qa.length Qs,.slice QA Qe.length Qt,.slice QE Qb.length Qu]) (t:=47) ?hr ?_;(case hd=>rfl);(case hg=>rfl);(case hr=>first|(go_simp;done)|(go_simp;rfl));intro Yn hg w7 hbox hb;have n0_:=Q0.mk (Qk (by repeat (first|(with_reducible first|exact HB.out|apply Q3|apply Q1|apply Q6)|exact HB.out)) hb);have n1_:=Q0.mk (hbox);have n2_:=Q0.mk ((by rw [hg];exact (Qi (by repeat (first|(with_reducible first|exact HB.out|apply Q3|apply Q1|apply Q6)|exact HB.out))):w.heap.size≤Yn));have n3_:=n2_;clear HB;have HB:=n0_;have Qz:=n1_;have qsb:=n2_;have YQ:=n3_;clear n0_ n1_ n2_ n3_ hb hbox hg)|((with_reducible refine QZ (N:=4) rfl ?_);(try (refine Jn (by rfl) ?_;dsimp only));refine Yp ?hg (N:=4) ?hd (cs:=#[.int .i64 ZG,.int .i64 Zu]) (t:=23) ?hr ?_;(case hd=>rfl);(case hg=>rfl);(case hr=>first|(go_simp;done)|(go_simp;rfl));intro Ze hg w8 hbox hb;have n0_:=Q0.mk (Qf (g:=Yn) (by (with_reducible repeat (first|refine Q4 ?_ _|refine Q7 ?_|refine Q2 ?_ _));exact Qz.out) hb);have n1_:=Q0.mk (Qk (by repeat (first|(with_reducible first|exact HB.out|apply Q3|apply Q1|apply Q6|refine Q5 ?_ YQ.out)|exact HB.out)) hb);have n2_:=Q0.mk (hbox);have n3_:=Q0.mk ((by rw [hg];exact (Qi (by repeat (first|(with_reducible first|exact HB.out|apply Q3|apply Q1|apply Q6|refine Q5 ?_ YQ.out)|exact HB.out))):w.heap.size≤Ze));have n4_:=n3_;have n5_:=Q0.mk ((by rw [hg];exact Nat.ne_of_lt (QT (g:=Yn) (by (with_reducible repeat (first|refine Q4 ?_ _|refine Q7 ?_|refine Q2 ?_ _));exact Qz.out)):Yn≠Ze));have n6_:=Q0.mk (n5_.out.symm);clear Qz HB;have Qz:=n0_;have HB:=n1_;have Yg:=n2_;have qsc:=n3_;have Z0:=n4_;have Gl:=n5_;have Gm:=n6_;clear n0_ n1_ n2_ n3_ n4_ n5_ n6_ hb hbox hg;have qxO:=Gl.out;have qx2:=Gm.out;have ZI:w8.cell? ⟨Yn,0,none⟩=some (.slice QC Qa.length Qs):=(Q8 Qz.out 0).trans rfl;have ZJ:w8.cell? ⟨Yn,1,none⟩=some (.slice QA Qe.length Qt):=(Q8 Qz.out 1).trans rfl;have ZP:w8.cell? ⟨Yn,2,none⟩=some (.slice QE Qb.length Qu):=(Q8 Qz.out 2).trans rfl;have ZK:=Q9 Qz.out 0;have ZL:=Q9 Qz.out 1;have ZQ:=Q9 Qz.out 2)|(go_at_call 28;(with_reducible refine (Yy.calls k _ _ Qa _ _ Qe _ _ Qb Jb Gi _ ?side1 ?side2 ?side3 ?side4 ?side5 ?side6 A4.out).mono ?_);(case side1=>repeat (first|exact (Kd.C_below Z5.out HB.out)|(with_reducible refine Kd.C_alloc ?_ _)|(with_reducible refine Kd.C_drewN ?_ _)|(with_reducible refine Kd.C_drew ?_)));(case side2=>exact ZD.out);(case side3=>repeat (first|exact (Kd.C_below Zj.out HB.out)|(with_reducible refine Kd.C_alloc ?_ _)|(with_reducible refine Kd.C_drewN ?_ _)|(with_reducible refine Kd.C_drew ?_)));(case side4=>exact ZE.out);(case side5=>repeat (first|exact (Kd.C_below Z6.out HB.out)|(with_reducible refine Kd.C_alloc ?_ _)|(with_reducible refine Kd.C_drewN ?_ _)|(with_reducible refine Kd.C_drew ?_)));(case side6=>exact ZF.out);rintro e w11 ⟨rfl,hb⟩;have n0_:=Q0.mk (Qf (g:=Yn) (by (with_reducible repeat (first|refine Q4 ?_ _|refine Q7 ?_|refine Q2 ?_ _));exact Qz.out) hb);have n1_:=Q0.mk (Qf (g:=Ze) (by (with_reducible repeat (first|refine Q4 ?_ _|refine Q7 ?_|refine Q2 ?_ _));exact Yg.out) hb);have n2_:=Q0.mk (Qk (by repeat (first|(with_reducible first|exact HB.out|apply Q3|apply Q1|apply Q6|refine Q5 ?_ YQ.out|refine Q5 ?_ Z0.out)|exact HB.out)) hb);clear Qz Yg HB;have Qz:=n0_;have Yg:=n1_;have HB:=n2_;clear n0_ n1_ n2_;(try clear hb);(try clear hb2);(try clear hk);(try clear hi);have Ju:w11.cell? ⟨Yn,0,none⟩=some (.slice QC Qa.length Qs):=(Q8 Qz.out 0).trans rfl;have Jv:w11.cell? ⟨Yn,1,none⟩=some (.slice QA Qe.length Qt):=(Q8 Qz.out 1).trans rfl;have JA:w11.cell? ⟨Yn,2,none⟩=some (.slice QE Qb.length Qu):=(Q8 Qz.out 2).trans rfl;have Jw:=Q9 Qz.out 0;have Jx:=Q9 Qz.out 1;have JC:=Q9 Qz.out 2)|(go_at_call 32;(with_reducible refine (QO.calls k _ _ Qa _ _ Qe _ _ Qb 0 quL quM quN Oz _ ?side1 ?side2 ?side3 ?side4 ?side5 ?side6 A5.out).mono ?_);(case side1=>repeat (first|exact (Kd.C_below Z5.out HB.out)|(with_reducible refine Kd.C_alloc ?_ _)|(with_reducible refine Kd.C_drewN ?_ _)|(with_reducible refine Kd.C_drew ?_)));(case side2=>exact ZD.out);(case side3=>repeat (first|exact (Kd.C_below Zj.out HB.out)|(with_reducible refine Kd.C_alloc ?_ _)|(with_reducible refine Kd.C_drewN ?_ _)|(with_reducible refine Kd.C_drew ?_)));(case side4=>exact ZE.out);(case side5=>repeat (first|exact (Kd.C_below Z6.out HB.out)|(with_reducible refine Kd.C_alloc ?_ _)|(with_reducible refine Kd.C_drewN ?_ _)|(with_reducible refine Kd.C_drew ?_)));(case side6=>exact ZF.out);rintro e w13 ⟨rfl,hb⟩;have n0_:=Q0.mk (Qf (g:=Yn) (by (with_reducible repeat (first|refine Q4 ?_ _|refine Q7 ?_|refine Q2 ?_ _));exact Qz.out) hb);have n1_:=Q0.mk (Qf (g:=Ze) (by (with_reducible repeat (first|refine Q4 ?_ _|refine Q7 ?_|refine Q2 ?_ _));exact Yg.out) hb);have n2_:=Q0.mk (Qk (by repeat (first|(with_reducible first|exact HB.out|apply Q3|apply Q1|apply Q6|refine Q5 ?_ YQ.out|refine Q5 ?_ Z0.out)|exact HB.out)) hb);clear Qz Yg HB;have Qz:=n0_;have Yg:=n1_;have HB:=n2_;clear n0_ n1_ n2_;(try clear hb);(try clear hb2);(try clear hk);(try clear hi)));go_upto_region 3 with (first|((with_reducible refine QZ (N:=3) rfl ?_);(try (refine Jn (by rfl) ?_;dsimp only));refine Yp ?hg (N:=3) ?hd (cs:=#[.slice QC Qa.length Qs,.slice QA Qe.length Qt,.slice QE Qb.length Qu]) (t:=47) ?hr ?_;(case hd=>rfl);(case hg=>rfl);(case hr=>first|(go_simp;done)|(go_simp;rfl));intro Yn hg w7 hbox hb;have n0_:=Q0.mk (Qk (by repeat (first|(with_reducible first|exact HB.out|apply Q3|apply Q1|apply Q6)|exact HB.out)) hb);have n1_:=Q0.mk (hbox);have n2_:=Q0.mk ((by rw [hg];exact (Qi (by repeat (first|(with_reducible first|exact HB.out|apply Q3|apply Q1|apply Q6)|exact HB.out))):w.heap.size≤Yn));have n3_:=n2_;clear HB;have HB:=n0_;have Qz:=n1_;have qsb:=n2_;have YQ:=n3_;clear n0_ n1_ n2_ n3_ hb hbox hg)|((with_reducible refine QZ (N:=4) rfl ?_);(try (refine Jn (by rfl) ?_;dsimp only));refine Yp ?hg (N:=4) ?hd (cs:=#[.int .i64 ZG,.int .i64 Zu]) (t:=23) ?hr ?_;(case hd=>rfl);(case hg=>rfl);(case hr=>first|(go_simp;done)|(go_simp;rfl));intro Ze hg w8 hbox hb;have n0_:=Q0.mk (Qf (g:=Yn) (by (with_reducible repeat (first|refine Q4 ?_ _|refine Q7 ?_|refine Q2 ?_ _));exact Qz.out) hb);have n1_:=Q0.mk (Qk (by repeat (first|(with_reducible first|exact HB.out|apply Q3|apply Q1|apply Q6|refine Q5 ?_ YQ.out)|exact HB.out)) hb);have n2_:=Q0.mk (hbox);have n3_:=Q0.mk ((by rw [hg];exact (Qi (by repeat (first|(with_reducible first|exact HB.out|apply Q3|apply Q1|apply Q6|refine Q5 ?_ YQ.out)|exact HB.out))):w.heap.size≤Ze));have n4_:=n3_;have n5_:=Q0.mk ((by rw [hg];exact Nat.ne_of_lt (QT (g:=Yn) (by (with_reducible repeat (first|refine Q4 ?_ _|refine Q7 ?_|refine Q2 ?_ _));exact Qz.out)):Yn≠Ze));have n6_:=Q0.mk (n5_.out.symm);clear Qz HB;have Qz:=n0_;have HB:=n1_;have Yg:=n2_;have qsc:=n3_;have Z0:=n4_;have Gl:=n5_;have Gm:=n6_;clear n0_ n1_ n2_ n3_ n4_ n5_ n6_ hb hbox hg;have qxO:=Gl.out;have qx2:=Gm.out;have ZI:w8.cell? ⟨Yn,0,none⟩=some (.slice QC Qa.length Qs):=(Q8 Qz.out 0).trans rfl;have ZJ:w8.cell? ⟨Yn,1,none⟩=some (.slice QA Qe.length Qt):=(Q8 Qz.out 1).trans rfl;have ZP:w8.cell? ⟨Yn,2,none⟩=some (.slice QE Qb.length Qu):=(Q8 Qz.out 2).trans rfl;have ZK:=Q9 Qz.out 0;have ZL:=Q9 Qz.out 1;have ZQ:=Q9 Qz.out 2)|(go_at_call 28;(with_reducible refine (Yy.calls k _ _ Qa _ _ Qe _ _ Qb Jb Gi _ ?side1 ?side2 ?side3 ?side4 ?side5 ?side6 A4.out).mono ?_);(case side1=>repeat (first|exact (Kd.C_below Z5.out HB.out)|(with_reducible refine Kd.C_alloc ?_ _)|(with_reducible refine Kd.C_drewN ?_ _)|(with_reducible refine Kd.C_drew ?_)));(case side2=>exact ZD.out);(case side3=>repeat (first|exact (Kd.C_below Zj.out HB.out)|(with_reducible refine Kd.C_alloc ?_ _)|(with_reducible refine Kd.C_drewN ?_ _)|(with_reducible refine Kd.C_drew ?_)));(case side4=>exact ZE.out);(case side5=>repeat (first|exact (Kd.C_below Z6.out HB.out)|(with_reducible refine Kd.C_alloc ?_ _)|(with_reducible refine Kd.C_drewN ?_ _)|(with_reducible refine Kd.C_drew ?_)));(case side6=>exact ZF.out);rintro e w11 ⟨rfl,hb⟩;have n0_:=Q0.mk (Qf (g:=Yn) (by (with_reducible repeat (first|refine Q4 ?_ _|refine Q7 ?_|refine Q2 ?_ _));exact Qz.out) hb);have n1_:=Q0.mk (Qf (g:=Ze) (by (with_reducible repeat (first|refine Q4 ?_ _|refine Q7 ?_|refine Q2 ?_ _));exact Yg.out) hb);have n2_:=Q0.mk (Qk (by repeat (first|(with_reducible first|exact HB.out|apply Q3|apply Q1|apply Q6|refine Q5 ?_ YQ.out|refine Q5 ?_ Z0.out)|exact HB.out)) hb);clear Qz Yg HB;have Qz:=n0_;have Yg:=n1_;have HB:=n2_;clear n0_ n1_ n2_;(try clear hb);(try clear hb2);(try clear hk);(try clear hi);have Ju:w11.cell? ⟨Yn,0,none⟩=some (.slice QC Qa.length Qs):=(Q8 Qz.out 0).trans rfl;have Jv:w11.cell? ⟨Yn,1,none⟩=some (.slice QA Qe.length Qt):=(Q8 Qz.out 1).trans rfl;have JA:w11.cell? ⟨Yn,2,none⟩=some (.slice QE Qb.length Qu):=(Q8 Qz.out 2).trans rfl;have Jw:=Q9 Qz.out 0;have Jx:=Q9 Qz.out 1;have JC:=Q9 Qz.out 2)|(go_at_call 32;(with_reducible refine (QO.calls k _ _ Qa _ _ Qe _ _ Qb 0 quL quM quN Oz _ ?side1 ?side2 ?side3 ?side4 ?side5 ?side6 A5.out).mono ?_);(case side1=>repeat (first|exact (Kd.C_below Z5.out HB.out)|(with_reducible refine Kd.C_alloc ?_ _)|(with_reducible refine Kd.C_drewN ?_ _)|(with_reducible refine Kd.C_drew ?_)));(case side2=>exact ZD.out);(case side3=>repeat (first|exact (Kd.C_below Zj.out HB.out)|(with_reducible refine Kd.C_alloc ?_ _)|(with_reducible refine Kd.C_drewN ?_ _)|(with_reducible refine Kd.C_drew ?_)));(case side4=>exact ZE.out);(case side5=>repeat (first|exact (Kd.C_below Z6.out HB.out)|(with_reducible refine Kd.C_alloc ?_ _)|(with_reducible refine Kd.C_drewN ?_ _)|(with_reducible refine Kd.C_drew ?_)));(case side6=>exact ZF.out);rintro e w13 ⟨rfl,hb⟩;have n0_:=Q0.mk (Qf (g:=Yn) (by (with_reducible repeat (first|refine Q4 ?_ _|refine Q7 ?_|refine Q2 ?_ _));exact Qz.out) hb);have n1_:=Q0.mk (Qf (g:=Ze) (by (with_reducible repeat (first|refine Q4 ?_ _|refine Q7 ?_|refine Q2 ?_ _));exact Yg.out) hb);have n2_:=Q0.mk (Qk (by repeat (first|(with_reducible first|exact HB.out|apply Q3|apply Q1|apply Q6|refine Q5 ?_ YQ.out|refine Q5 ?_ Z0.out)|exact HB.out)) hb);clear Qz Yg HB;have Qz:=n0_;have Yg:=n1_;have HB:=n2_;clear n0_ n1_ n2_;(try clear hb);(try clear hb2);(try clear hk);(try clear hi))))
 (try simp only [Act.put,List.setIfInBounds_toArray,List.set_cons_zero,List.set_cons_succ])
 go_cut [36] (fun v36 wc => ∃ (kq:Nat) (qmo:Bool),v36 = .bool qmo∧Q0 (Qg.j0 kq l2 Jb Gi Oz qmo Qa Qe Qb ZG Zu=some r)∧Q0 (kq≤k)∧Q0 (wc.heap[Yn]? = some (.cells #[(.slice QC Qa.length Qs),(.slice QA Qe.length Qt),(.slice QE Qb.length Qu)] 47 (0,0)))∧Q0 (wc.heap[Ze]? = some (.cells #[.int .i64 ZG,.int .i64 Zu] 23 (0,0)))∧Q0 (Below w.heap.size w wc))
 case first =>
  have H:=HC6.out
  clear HC6
  by_cases c14:Gi=0
  ·
   rw [if_pos c14] at H
   have c14b0:(Gi==0)=true:=beq_iff_eq.mpr c14
   have c14b1:(Gi != 0)=false:=bne_eq_false_iff_eq.mpr c14
   clear c14
   (first|rw [c14b0]|(simp only [QK,QP];rw [c14b0])|skip)
   replace H:=Option.bind_eq_some_iff.mp H
   obtain ⟨qkx,qnx,H⟩:=H
   replace H:(Qg.j0 k l2 Jb Gi Oz (!qkx) Qa Qe Qb ZG Zu)=some r:=H
   have A15:=Q0.mk qnx
   clear qnx
   have H':=Q0.mk H
   clear H
   have qG6:=Gl.out
   have qHO:=Gm.out
   have qad:w13.cell? ⟨Yn,0,none⟩=some (.slice QC Qa.length Qs):=(Q8 Qz.out 0).trans rfl
   have qae:w13.cell? ⟨Yn,1,none⟩=some (.slice QA Qe.length Qt):=(Q8 Qz.out 1).trans rfl
   have qaf:w13.cell? ⟨Yn,2,none⟩=some (.slice QE Qb.length Qu):=(Q8 Qz.out 2).trans rfl
   have qaj:=Q9 Qz.out 0
   have qak:=Q9 Qz.out 1
   have qal:=Q9 Qz.out 2
   go_wp2_with (first|(go_at_call 51;(with_reducible refine (Qd.calls k _ _ Qa _ _ Qe _ _ Qb qkx _ ?side1 ?side2 ?side3 ?side4 ?side5 ?side6 A15.out).mono ?_);(case side1=>repeat (first|exact (Kd.C_below Z5.out HB.out)|(with_reducible refine Kd.C_alloc ?_ _)|(with_reducible refine Kd.C_drewN ?_ _)|(with_reducible refine Kd.C_drew ?_)));(case side2=>exact ZD.out);(case side3=>repeat (first|exact (Kd.C_below Zj.out HB.out)|(with_reducible refine Kd.C_alloc ?_ _)|(with_reducible refine Kd.C_drewN ?_ _)|(with_reducible refine Kd.C_drew ?_)));(case side4=>exact ZE.out);(case side5=>repeat (first|exact (Kd.C_below Z6.out HB.out)|(with_reducible refine Kd.C_alloc ?_ _)|(with_reducible refine Kd.C_drewN ?_ _)|(with_reducible refine Kd.C_drew ?_)));(case side6=>exact ZF.out);rintro e w18 ⟨rfl,hb⟩;have n0_:=Q0.mk (Qf (g:=Yn) (by (with_reducible repeat (first|refine Q4 ?_ _|refine Q7 ?_|refine Q2 ?_ _));exact Qz.out) hb);have n1_:=Q0.mk (Qf (g:=Ze) (by (with_reducible repeat (first|refine Q4 ?_ _|refine Q7 ?_|refine Q2 ?_ _));exact Yg.out) hb);have n2_:=Q0.mk (Qk (by repeat (first|(with_reducible first|exact HB.out|apply Q3|apply Q1|apply Q6|refine Q5 ?_ YQ.out|refine Q5 ?_ Z0.out)|exact HB.out)) hb);clear Qz Yg HB;have Qz:=n0_;have Yg:=n1_;have HB:=n2_;clear n0_ n1_ n2_;(try clear hb);(try clear hb2);(try clear hk);(try clear hi)))
   repeat (go_quiet (first|(go_at_call 51;(with_reducible refine (Qd.calls k _ _ Qa _ _ Qe _ _ Qb qkx _ ?side1 ?side2 ?side3 ?side4 ?side5 ?side6 A15.out).mono ?_);(case side1=>repeat (first|exact (Kd.C_below Z5.out HB.out)|(with_reducible refine Kd.C_alloc ?_ _)|(with_reducible refine Kd.C_drewN ?_ _)|(with_reducible refine Kd.C_drew ?_)));(case side2=>exact ZD.out);(case side3=>repeat (first|exact (Kd.C_below Zj.out HB.out)|(with_reducible refine Kd.C_alloc ?_ _)|(with_reducible refine Kd.C_drewN ?_ _)|(with_reducible refine Kd.C_drew ?_)));(case side4=>exact ZE.out);(case side5=>repeat (first|exact (Kd.C_below Z6.out HB.out)|(with_reducible refine Kd.C_alloc ?_ _)|(with_reducible refine Kd.C_drewN ?_ _)|(with_reducible refine Kd.C_drew ?_)));(case side6=>exact ZF.out);rintro e w18 ⟨rfl,hb⟩;have n0_:=Q0.mk (Qf (g:=Yn) (by (with_reducible repeat (first|refine Q4 ?_ _|refine Q7 ?_|refine Q2 ?_ _));exact Qz.out) hb);have n1_:=Q0.mk (Qf (g:=Ze) (by (with_reducible repeat (first|refine Q4 ?_ _|refine Q7 ?_|refine Q2 ?_ _));exact Yg.out) hb);have n2_:=Q0.mk (Qk (by repeat (first|(with_reducible first|exact HB.out|apply Q3|apply Q1|apply Q6|refine Q5 ?_ YQ.out|refine Q5 ?_ Z0.out)|exact HB.out)) hb);clear Qz Yg HB;have Qz:=n0_;have Yg:=n1_;have HB:=n2_;clear n0_ n1_ n2_;(try clear hb);(try clear hb2);(try clear hk);(try clear hi)));try go_wp2_with (first|(go_at_call 51;(with_reducible refine (Qd.calls k _ _ Qa _ _ Qe _ _ Qb qkx _ ?side1 ?side2 ?side3 ?side4 ?side5 ?side6 A15.out).mono ?_);(case side1=>repeat (first|exact (Kd.C_below Z5.out HB.out)|(with_reducible refine Kd.C_alloc ?_ _)|(with_reducible refine Kd.C_drewN ?_ _)|(with_reducible refine Kd.C_drew ?_)));(case side2=>exact ZD.out);(case side3=>repeat (first|exact (Kd.C_below Zj.out HB.out)|(with_reducible refine Kd.C_alloc ?_ _)|(with_reducible refine Kd.C_drewN ?_ _)|(with_reducible refine Kd.C_drew ?_)));(case side4=>exact ZE.out);(case side5=>repeat (first|exact (Kd.C_below Z6.out HB.out)|(with_reducible refine Kd.C_alloc ?_ _)|(with_reducible refine Kd.C_drewN ?_ _)|(with_reducible refine Kd.C_drew ?_)));(case side6=>exact ZF.out);rintro e w18 ⟨rfl,hb⟩;have n0_:=Q0.mk (Qf (g:=Yn) (by (with_reducible repeat (first|refine Q4 ?_ _|refine Q7 ?_|refine Q2 ?_ _));exact Qz.out) hb);have n1_:=Q0.mk (Qf (g:=Ze) (by (with_reducible repeat (first|refine Q4 ?_ _|refine Q7 ?_|refine Q2 ?_ _));exact Yg.out) hb);have n2_:=Q0.mk (Qk (by repeat (first|(with_reducible first|exact HB.out|apply Q3|apply Q1|apply Q6|refine Q5 ?_ YQ.out|refine Q5 ?_ Z0.out)|exact HB.out)) hb);clear Qz Yg HB;have Qz:=n0_;have Yg:=n1_;have HB:=n2_;clear n0_ n1_ n2_;(try clear hb);(try clear hb2);(try clear hk);(try clear hi))))
   go_meet
   case rel=>exact ⟨_,(!qkx),(by first|rfl|(simp;done)|(simp [*];done)),H',⟨by first|omega|exact Nat.le_refl _⟩,⟨by (with_reducible repeat (first|refine Q4 ?_ _|refine Q7 ?_|refine Q2 ?_ _));exact Qz.out⟩,⟨by (with_reducible repeat (first|refine Q4 ?_ _|refine Q7 ?_|refine Q2 ?_ _));exact Yg.out⟩,⟨by repeat (first|(with_reducible first|exact HB.out|apply Q3|apply Q1|apply Q6|refine Q5 ?_ YQ.out|refine Q5 ?_ Z0.out)|exact HB.out)⟩⟩
  rw [if_neg c14] at H
  have c14b0:(Gi==0)=false:=beq_eq_false_iff_ne.mpr c14
  have c14b1:(Gi != 0)=true:=bne_iff_ne.mpr c14
  (first|rw [c14b0]|(simp only [QK,QP];rw [c14b0])|skip)
  have H':=Q0.mk H
  clear H
  go_wp2
  repeat (go_quiet (fail);try go_wp2)
  go_meet
  case rel=>exact ⟨_,(true),(by first|rfl|(simp;done)|(simp [*];done)),H',⟨by first|omega|exact Nat.le_refl _⟩,⟨by (with_reducible repeat (first|refine Q4 ?_ _|refine Q7 ?_|refine Q2 ?_ _));exact Qz.out⟩,⟨by (with_reducible repeat (first|refine Q4 ?_ _|refine Q7 ?_|refine Q2 ?_ _));exact Yg.out⟩,⟨by repeat (first|(with_reducible first|exact HB.out|apply Q3|apply Q1|apply Q6|refine Q5 ?_ YQ.out|refine Q5 ?_ Z0.out)|exact HB.out)⟩⟩
 case rest =>
  clear HC6
  try clear c1
  try clear c2
  try clear p2
  try clear c9
  try clear c14
  try clear c14b0
  try clear c14b1
  try clear c16
  try clear ZI
  try clear ZJ
  try clear ZP
  try clear Ju
  try clear Jv
  try clear JA
  try clear qad
  try clear qae
  try clear qaf
  try clear ZK
  try clear ZL
  try clear ZQ
  try clear Jw
  try clear Jx
  try clear JC
  try clear qaj
  try clear qak
  try clear qal
  obtain ⟨kq,qmo,rfl,HA,HJ5,Qz,Yg,HB⟩:=hcut
  cases kq with
  | zero=>exact absurd HA.out (by simp [Qg.j0])
  | succ kj5 =>
   have H:=HA.out
   clear HA
   simp only [Qg.j0] at H
   by_cases c19:qmo=true
   ·
    subst c19
    have H1:(if Jb=0 then (if Gi=4 then (if Oz=0 then ((QV.f).bind fun qi0=>(some qi0)) else (if Gi=0 then (some false) else (if Gi=Oz then ((QV.f).bind fun qi2=>(some qi2)) else (some false)))) else (if Gi=0 then (some false) else (if Gi=Oz then ((QV.f).bind fun qi3=>(some qi3)) else (some false)))) else (some false))=some r:=by rw [if_pos rfl] at H;exact H
    clear H;have H:=H1;clear H1
    by_cases c20:Jb=0
    ·
     rw [if_pos c20] at H;have c20b0:(Jb==0)=true:=beq_iff_eq.mpr c20;have c20b1:(Jb != 0)=false:=bne_eq_false_iff_eq.mpr c20;clear c20
     by_cases c21:Gi=4
     ·
      rw [if_pos c21] at H;have c21b0:(Gi==4)=true:=beq_iff_eq.mpr c21;have c21b1:(Gi != 4)=false:=bne_eq_false_iff_eq.mpr c21;clear c21
      by_cases c22:Oz=0
      ·
       rw [if_pos c22] at H;have c22b0:(Oz==0)=true:=beq_iff_eq.mpr c22;have c22b1:(Oz != 0)=false:=bne_eq_false_iff_eq.mpr c22;clear c22;replace H:=Option.bind_eq_some_iff.mp H;obtain ⟨qi0,qu2,H⟩:=H;replace H:(some qi0)=some r:=H;have A23:=Q0.mk qu2;clear qu2;obtain rfl:=Option.some.inj H
       go_wp2_with (first|(go_at_call 21;(with_reducible refine (QV.calls  qi0 _ A23.out).mono ?_);rintro e w24 ⟨rfl,hb⟩;have n0_:=Q0.mk (Qf (g:=Yn) (by (with_reducible repeat (first|refine Q4 ?_ _|refine Q7 ?_|refine Q2 ?_ _));exact Qz.out) hb);have n1_:=Q0.mk (Qf (g:=Ze) (by (with_reducible repeat (first|refine Q4 ?_ _|refine Q7 ?_|refine Q2 ?_ _));exact Yg.out) hb);have n2_:=Q0.mk (Qk (by repeat (first|(with_reducible first|exact HB.out|apply Q3|apply Q1|apply Q6|refine Q5 ?_ YQ.out|refine Q5 ?_ Z0.out)|exact HB.out)) hb);clear Qz Yg HB;have Qz:=n0_;have Yg:=n1_;have HB:=n2_;clear n0_ n1_ n2_;(try clear hb);(try clear hb2);(try clear hk);(try clear hi)))
       repeat (go_quiet (first|(go_at_call 21;(with_reducible refine (QV.calls  qi0 _ A23.out).mono ?_);rintro e w24 ⟨rfl,hb⟩;have n0_:=Q0.mk (Qf (g:=Yn) (by (with_reducible repeat (first|refine Q4 ?_ _|refine Q7 ?_|refine Q2 ?_ _));exact Qz.out) hb);have n1_:=Q0.mk (Qf (g:=Ze) (by (with_reducible repeat (first|refine Q4 ?_ _|refine Q7 ?_|refine Q2 ?_ _));exact Yg.out) hb);have n2_:=Q0.mk (Qk (by repeat (first|(with_reducible first|exact HB.out|apply Q3|apply Q1|apply Q6|refine Q5 ?_ YQ.out|refine Q5 ?_ Z0.out)|exact HB.out)) hb);clear Qz Yg HB;have Qz:=n0_;have Yg:=n1_;have HB:=n2_;clear n0_ n1_ n2_;(try clear hb);(try clear hb2);(try clear hk);(try clear hi)));try go_wp2_with (first|(go_at_call 21;(with_reducible refine (QV.calls  qi0 _ A23.out).mono ?_);rintro e w24 ⟨rfl,hb⟩;have n0_:=Q0.mk (Qf (g:=Yn) (by (with_reducible repeat (first|refine Q4 ?_ _|refine Q7 ?_|refine Q2 ?_ _));exact Qz.out) hb);have n1_:=Q0.mk (Qf (g:=Ze) (by (with_reducible repeat (first|refine Q4 ?_ _|refine Q7 ?_|refine Q2 ?_ _));exact Yg.out) hb);have n2_:=Q0.mk (Qk (by repeat (first|(with_reducible first|exact HB.out|apply Q3|apply Q1|apply Q6|refine Q5 ?_ YQ.out|refine Q5 ?_ Z0.out)|exact HB.out)) hb);clear Qz Yg HB;have Qz:=n0_;have Yg:=n1_;have HB:=n2_;clear n0_ n1_ n2_;(try clear hb);(try clear hb2);(try clear hk);(try clear hi))))
       go_ret
       exact ⟨by first|rfl|(simp [Qx,Qy]<;>rfl)|(simp [*,Qx,Qy]<;>rfl),by repeat (first|(with_reducible first|exact HB.out|apply Q3|apply Q1|apply Q6|refine Q5 ?_ YQ.out|refine Q5 ?_ Z0.out)|exact HB.out)⟩
      rw [if_neg c22] at H;have c22b0:(Oz==0)=false:=beq_eq_false_iff_ne.mpr c22;have c22b1:(Oz != 0)=true:=bne_iff_ne.mpr c22
      by_cases c25:Gi=0
      ·
       rw [if_pos c25] at H;have c25b0:(Gi==0)=true:=beq_iff_eq.mpr c25;have c25b1:(Gi != 0)=false:=bne_eq_false_iff_eq.mpr c25;clear c25;obtain rfl:=Option.some.inj H
       go_wp2
       repeat (go_quiet (fail);try go_wp2)
       go_ret
       exact ⟨by first|rfl|(simp [Qx,Qy]<;>rfl)|(simp [*,Qx,Qy]<;>rfl),by repeat (first|(with_reducible first|exact HB.out|apply Q3|apply Q1|apply Q6|refine Q5 ?_ YQ.out|refine Q5 ?_ Z0.out)|exact HB.out)⟩
      rw [if_neg c25] at H;have c25b0:(Gi==0)=false:=beq_eq_false_iff_ne.mpr c25;have c25b1:(Gi != 0)=true:=bne_iff_ne.mpr c25
      by_cases c26:Gi=Oz
      ·
       rw [if_pos c26] at H;have c26b0:(Gi==Oz)=true:=beq_iff_eq.mpr c26;have c26b1:(Gi != Oz)=false:=bne_eq_false_iff_eq.mpr c26;clear c26;replace H:=Option.bind_eq_some_iff.mp H;obtain ⟨qi2,qhx,H⟩:=H;replace H:(some qi2)=some r:=H;have A27:=Q0.mk qhx;clear qhx;obtain rfl:=Option.some.inj H
       go_wp2_with (first|(go_at_call 21;(with_reducible refine (QV.calls  qi2 _ A27.out).mono ?_);rintro e w28 ⟨rfl,hb⟩;have n0_:=Q0.mk (Qf (g:=Yn) (by (with_reducible repeat (first|refine Q4 ?_ _|refine Q7 ?_|refine Q2 ?_ _));exact Qz.out) hb);have n1_:=Q0.mk (Qf (g:=Ze) (by (with_reducible repeat (first|refine Q4 ?_ _|refine Q7 ?_|refine Q2 ?_ _));exact Yg.out) hb);have n2_:=Q0.mk (Qk (by repeat (first|(with_reducible first|exact HB.out|apply Q3|apply Q1|apply Q6|refine Q5 ?_ YQ.out|refine Q5 ?_ Z0.out)|exact HB.out)) hb);clear Qz Yg HB;have Qz:=n0_;have Yg:=n1_;have HB:=n2_;clear n0_ n1_ n2_;(try clear hb);(try clear hb2);(try clear hk);(try clear hi)))
       repeat (go_quiet (first|(go_at_call 21;(with_reducible refine (QV.calls  qi2 _ A27.out).mono ?_);rintro e w28 ⟨rfl,hb⟩;have n0_:=Q0.mk (Qf (g:=Yn) (by (with_reducible repeat (first|refine Q4 ?_ _|refine Q7 ?_|refine Q2 ?_ _));exact Qz.out) hb);have n1_:=Q0.mk (Qf (g:=Ze) (by (with_reducible repeat (first|refine Q4 ?_ _|refine Q7 ?_|refine Q2 ?_ _));exact Yg.out) hb);have n2_:=Q0.mk (Qk (by repeat (first|(with_reducible first|exact HB.out|apply Q3|apply Q1|apply Q6|refine Q5 ?_ YQ.out|refine Q5 ?_ Z0.out)|exact HB.out)) hb);clear Qz Yg HB;have Qz:=n0_;have Yg:=n1_;have HB:=n2_;clear n0_ n1_ n2_;(try clear hb);(try clear hb2);(try clear hk);(try clear hi)));try go_wp2_with (first|(go_at_call 21;(with_reducible refine (QV.calls  qi2 _ A27.out).mono ?_);rintro e w28 ⟨rfl,hb⟩;have n0_:=Q0.mk (Qf (g:=Yn) (by (with_reducible repeat (first|refine Q4 ?_ _|refine Q7 ?_|refine Q2 ?_ _));exact Qz.out) hb);have n1_:=Q0.mk (Qf (g:=Ze) (by (with_reducible repeat (first|refine Q4 ?_ _|refine Q7 ?_|refine Q2 ?_ _));exact Yg.out) hb);have n2_:=Q0.mk (Qk (by repeat (first|(with_reducible first|exact HB.out|apply Q3|apply Q1|apply Q6|refine Q5 ?_ YQ.out|refine Q5 ?_ Z0.out)|exact HB.out)) hb);clear Qz Yg HB;have Qz:=n0_;have Yg:=n1_;have HB:=n2_;clear n0_ n1_ n2_;(try clear hb);(try clear hb2);(try clear hk);(try clear hi))))
       go_ret
       exact ⟨by first|rfl|(simp [Qx,Qy]<;>rfl)|(simp [*,Qx,Qy]<;>rfl),by repeat (first|(with_reducible first|exact HB.out|apply Q3|apply Q1|apply Q6|refine Q5 ?_ YQ.out|refine Q5 ?_ Z0.out)|exact HB.out)⟩
      rw [if_neg c26] at H;have c26b0:(Gi==Oz)=false:=beq_eq_false_iff_ne.mpr c26;have c26b1:(Gi != Oz)=true:=bne_iff_ne.mpr c26;obtain rfl:=Option.some.inj H
      go_wp2
      repeat (go_quiet (fail);try go_wp2)
      go_ret
      exact ⟨by first|rfl|(simp [Qx,Qy]<;>rfl)|(simp [*,Qx,Qy]<;>rfl),by repeat (first|(with_reducible first|exact HB.out|apply Q3|apply Q1|apply Q6|refine Q5 ?_ YQ.out|refine Q5 ?_ Z0.out)|exact HB.out)⟩
     rw [if_neg c21] at H;have c21b0:(Gi==4)=false:=beq_eq_false_iff_ne.mpr c21;have c21b1:(Gi != 4)=true:=bne_iff_ne.mpr c21
     by_cases c29:Gi=0
     ·
      rw [if_pos c29] at H;have c29b0:(Gi==0)=true:=beq_iff_eq.mpr c29;have c29b1:(Gi != 0)=false:=bne_eq_false_iff_eq.mpr c29;clear c29;obtain rfl:=Option.some.inj H
      go_wp2
      repeat (go_quiet (fail);try go_wp2)
      go_ret
      exact ⟨by first|rfl|(simp [Qx,Qy]<;>rfl)|(simp [*,Qx,Qy]<;>rfl),by repeat (first|(with_reducible first|exact HB.out|apply Q3|apply Q1|apply Q6|refine Q5 ?_ YQ.out|refine Q5 ?_ Z0.out)|exact HB.out)⟩
     rw [if_neg c29] at H;have c29b0:(Gi==0)=false:=beq_eq_false_iff_ne.mpr c29;have c29b1:(Gi != 0)=true:=bne_iff_ne.mpr c29
     by_cases c30:Gi=Oz
     ·
      rw [if_pos c30] at H;have c30b0:(Gi==Oz)=true:=beq_iff_eq.mpr c30;have c30b1:(Gi != Oz)=false:=bne_eq_false_iff_eq.mpr c30;clear c30;replace H:=Option.bind_eq_some_iff.mp H;obtain ⟨qi3,qnA,H⟩:=H;replace H:(some qi3)=some r:=H;have A31:=Q0.mk qnA;clear qnA;obtain rfl:=Option.some.inj H
      go_wp2_with (first|(go_at_call 21;(with_reducible refine (QV.calls  qi3 _ A31.out).mono ?_);rintro e w32 ⟨rfl,hb⟩;have n0_:=Q0.mk (Qf (g:=Yn) (by (with_reducible repeat (first|refine Q4 ?_ _|refine Q7 ?_|refine Q2 ?_ _));exact Qz.out) hb);have n1_:=Q0.mk (Qf (g:=Ze) (by (with_reducible repeat (first|refine Q4 ?_ _|refine Q7 ?_|refine Q2 ?_ _));exact Yg.out) hb);have n2_:=Q0.mk (Qk (by repeat (first|(with_reducible first|exact HB.out|apply Q3|apply Q1|apply Q6|refine Q5 ?_ YQ.out|refine Q5 ?_ Z0.out)|exact HB.out)) hb);clear Qz Yg HB;have Qz:=n0_;have Yg:=n1_;have HB:=n2_;clear n0_ n1_ n2_;(try clear hb);(try clear hb2);(try clear hk);(try clear hi)))
      repeat (go_quiet (first|(go_at_call 21;(with_reducible refine (QV.calls  qi3 _ A31.out).mono ?_);rintro e w32 ⟨rfl,hb⟩;have n0_:=Q0.mk (Qf (g:=Yn) (by (with_reducible repeat (first|refine Q4 ?_ _|refine Q7 ?_|refine Q2 ?_ _));exact Qz.out) hb);have n1_:=Q0.mk (Qf (g:=Ze) (by (with_reducible repeat (first|refine Q4 ?_ _|refine Q7 ?_|refine Q2 ?_ _));exact Yg.out) hb);have n2_:=Q0.mk (Qk (by repeat (first|(with_reducible first|exact HB.out|apply Q3|apply Q1|apply Q6|refine Q5 ?_ YQ.out|refine Q5 ?_ Z0.out)|exact HB.out)) hb);clear Qz Yg HB;have Qz:=n0_;have Yg:=n1_;have HB:=n2_;clear n0_ n1_ n2_;(try clear hb);(try clear hb2);(try clear hk);(try clear hi)));try go_wp2_with (first|(go_at_call 21;(with_reducible refine (QV.calls  qi3 _ A31.out).mono ?_);rintro e w32 ⟨rfl,hb⟩;have n0_:=Q0.mk (Qf (g:=Yn) (by (with_reducible repeat (first|refine Q4 ?_ _|refine Q7 ?_|refine Q2 ?_ _));exact Qz.out) hb);have n1_:=Q0.mk (Qf (g:=Ze) (by (with_reducible repeat (first|refine Q4 ?_ _|refine Q7 ?_|refine Q2 ?_ _));exact Yg.out) hb);have n2_:=Q0.mk (Qk (by repeat (first|(with_reducible first|exact HB.out|apply Q3|apply Q1|apply Q6|refine Q5 ?_ YQ.out|refine Q5 ?_ Z0.out)|exact HB.out)) hb);clear Qz Yg HB;have Qz:=n0_;have Yg:=n1_;have HB:=n2_;clear n0_ n1_ n2_;(try clear hb);(try clear hb2);(try clear hk);(try clear hi))))
      go_ret
      exact ⟨by first|rfl|(simp [Qx,Qy]<;>rfl)|(simp [*,Qx,Qy]<;>rfl),by repeat (first|(with_reducible first|exact HB.out|apply Q3|apply Q1|apply Q6|refine Q5 ?_ YQ.out|refine Q5 ?_ Z0.out)|exact HB.out)⟩
     rw [if_neg c30] at H;have c30b0:(Gi==Oz)=false:=beq_eq_false_iff_ne.mpr c30;have c30b1:(Gi != Oz)=true:=bne_iff_ne.mpr c30;obtain rfl:=Option.some.inj H
     go_wp2
     repeat (go_quiet (fail);try go_wp2)
     go_ret
     exact ⟨by first|rfl|(simp [Qx,Qy]<;>rfl)|(simp [*,Qx,Qy]<;>rfl),by repeat (first|(with_reducible first|exact HB.out|apply Q3|apply Q1|apply Q6|refine Q5 ?_ YQ.out|refine Q5 ?_ Z0.out)|exact HB.out)⟩
    rw [if_neg c20] at H;have c20b0:(Jb==0)=false:=beq_eq_false_iff_ne.mpr c20;have c20b1:(Jb != 0)=true:=bne_iff_ne.mpr c20;obtain rfl:=Option.some.inj H
    go_wp2
    repeat (go_quiet (fail);try go_wp2)
    go_ret
    exact ⟨by first|rfl|(simp [Qx,Qy]<;>rfl)|(simp [*,Qx,Qy]<;>rfl),by repeat (first|(with_reducible first|exact HB.out|apply Q3|apply Q1|apply Q6|refine Q5 ?_ YQ.out|refine Q5 ?_ Z0.out)|exact HB.out)⟩
   replace c19:=Bool.eq_false_iff.mpr c19
   subst c19
   have H1:((Qr.f Jb 0 10000).bind fun qnk=>(if qnk=true then (Qg.j1 kj5 l2 Jb (Oz != 4) Qa Qe Qb ZG Zu) else (Qg.j1 kj5 l2 Jb true Qa Qe Qb ZG Zu)))=some r:=by rw [if_neg (show ¬ (false=true) by decide)] at H;exact H
   clear H
   have H:=H1
   clear H1
   have qji:=Q0.mk H
   clear H
   go_upto_region 5 with (fail)
   repeat (go_quiet (fail);go_upto_region 5 with (fail))
   go_cut [65] (fun v65 wc => ∃ (kq:Nat) (Xs:Bool),v65 = .bool Xs∧Q0 (Qg.j1 kq l2 Jb Xs Qa Qe Qb ZG Zu=some r)∧Q0 (kq≤kj5)∧Q0 (wc.heap[Yn]? = some (.cells #[(.slice QC Qa.length Qs),(.slice QA Qe.length Qt),(.slice QE Qb.length Qu)] 47 (0,0)))∧Q0 (wc.heap[Ze]? = some (.cells #[.int .i64 ZG,.int .i64 Zu] 23 (0,0)))∧Q0 (Below w.heap.size w wc))
   case first =>
    have H:=qji.out;clear qji;replace H:=Option.bind_eq_some_iff.mp H;obtain ⟨qnk,qu8,H⟩:=H;replace H:(if qnk=true then (Qg.j1 kj5 l2 Jb (Oz != 4) Qa Qe Qb ZG Zu) else (Qg.j1 kj5 l2 Jb true Qa Qe Qb ZG Zu))=some r:=H;have A34:=Q0.mk qu8;clear qu8
    by_cases c35:qnk=true
    ·
     subst c35
     have H1:(Qg.j1 kj5 l2 Jb (Oz != 4) Qa Qe Qb ZG Zu)=some r:=by rw [if_pos rfl] at H;exact H
     clear H;have H:=H1;clear H1;have H':=Q0.mk H;clear H
     go_wp2_with (first|(go_at_call 34;(with_reducible refine (Qr.calls Jb 0 10000 true _ A34.out).mono ?_);rintro e w' ⟨rfl,⟨nd,rfl⟩⟩;(try first|exact ⟨rfl,_,World.drewN_drewN _ _ _⟩|exact ⟨rfl,_,Eq.trans (World.drewN_drewN _ _ _) (congrArg (World.drewN _) (Nat.add_assoc _ _ _))⟩)))
     repeat (go_quiet (first|(go_at_call 34;(with_reducible refine (Qr.calls Jb 0 10000 true _ A34.out).mono ?_);rintro e w' ⟨rfl,⟨nd,rfl⟩⟩;(try first|exact ⟨rfl,_,World.drewN_drewN _ _ _⟩|exact ⟨rfl,_,Eq.trans (World.drewN_drewN _ _ _) (congrArg (World.drewN _) (Nat.add_assoc _ _ _))⟩)));try go_wp2_with (first|(go_at_call 34;(with_reducible refine (Qr.calls Jb 0 10000 true _ A34.out).mono ?_);rintro e w' ⟨rfl,⟨nd,rfl⟩⟩;(try first|exact ⟨rfl,_,World.drewN_drewN _ _ _⟩|exact ⟨rfl,_,Eq.trans (World.drewN_drewN _ _ _) (congrArg (World.drewN _) (Nat.add_assoc _ _ _))⟩))))
     go_meet
     case rel=>exact ⟨_,((Oz != 4)),(by first|rfl|(simp;done)|(simp [*];done)),H',⟨by have:=HJ5.out;first|omega|exact Nat.le_refl _⟩,⟨by (with_reducible repeat (first|refine Q4 ?_ _|refine Q7 ?_|refine Q2 ?_ _));exact Qz.out⟩,⟨by (with_reducible repeat (first|refine Q4 ?_ _|refine Q7 ?_|refine Q2 ?_ _));exact Yg.out⟩,⟨by repeat (first|(with_reducible first|exact HB.out|apply Q3|apply Q1|apply Q6|refine Q5 ?_ YQ.out|refine Q5 ?_ Z0.out)|exact HB.out)⟩⟩
    replace c35:=Bool.eq_false_iff.mpr c35;subst c35
    have H1:(Qg.j1 kj5 l2 Jb true Qa Qe Qb ZG Zu)=some r:=by rw [if_neg (show ¬ (false=true) by decide)] at H;exact H
    clear H;have H:=H1;clear H1;have H':=Q0.mk H;clear H
    go_wp2_with (first|(go_at_call 34;(with_reducible refine (Qr.calls Jb 0 10000 false _ A34.out).mono ?_);rintro e w' ⟨rfl,⟨nd,rfl⟩⟩;(try first|exact ⟨rfl,_,World.drewN_drewN _ _ _⟩|exact ⟨rfl,_,Eq.trans (World.drewN_drewN _ _ _) (congrArg (World.drewN _) (Nat.add_assoc _ _ _))⟩)))
    repeat (go_quiet (first|(go_at_call 34;(with_reducible refine (Qr.calls Jb 0 10000 false _ A34.out).mono ?_);rintro e w' ⟨rfl,⟨nd,rfl⟩⟩;(try first|exact ⟨rfl,_,World.drewN_drewN _ _ _⟩|exact ⟨rfl,_,Eq.trans (World.drewN_drewN _ _ _) (congrArg (World.drewN _) (Nat.add_assoc _ _ _))⟩)));try go_wp2_with (first|(go_at_call 34;(with_reducible refine (Qr.calls Jb 0 10000 false _ A34.out).mono ?_);rintro e w' ⟨rfl,⟨nd,rfl⟩⟩;(try first|exact ⟨rfl,_,World.drewN_drewN _ _ _⟩|exact ⟨rfl,_,Eq.trans (World.drewN_drewN _ _ _) (congrArg (World.drewN _) (Nat.add_assoc _ _ _))⟩))))
    go_meet
    case rel=>exact ⟨_,(true),(by first|rfl|(simp;done)|(simp [*];done)),H',⟨by have:=HJ5.out;first|omega|exact Nat.le_refl _⟩,⟨by (with_reducible repeat (first|refine Q4 ?_ _|refine Q7 ?_|refine Q2 ?_ _));exact Qz.out⟩,⟨by (with_reducible repeat (first|refine Q4 ?_ _|refine Q7 ?_|refine Q2 ?_ _));exact Yg.out⟩,⟨by repeat (first|(with_reducible first|exact HB.out|apply Q3|apply Q1|apply Q6|refine Q5 ?_ YQ.out|refine Q5 ?_ Z0.out)|exact HB.out)⟩⟩
   case rest =>
    clear qji;(try clear c1);(try clear c2);(try clear p2);(try clear c3);(try clear c9);(try clear c14);(try clear c14b0);(try clear c14b1);(try clear c16);(try clear c19);(try clear c20);(try clear c20b0);(try clear c20b1);(try clear c21);(try clear c21b0);(try clear c21b1);(try clear c22);(try clear c22b0);(try clear c22b1);(try clear c25);(try clear c25b0);(try clear c25b1);(try clear c26);(try clear c26b0);(try clear c26b1);(try clear c29);(try clear c29b0);(try clear c29b1);(try clear c30);(try clear c30b0);(try clear c30b1);(try clear c35);(try clear ZI);(try clear ZJ);(try clear ZP);(try clear Ju);(try clear Jv);(try clear JA);(try clear qad);(try clear qae);(try clear qaf);(try clear ZK);(try clear ZL);(try clear ZQ);(try clear Jw);(try clear Jx);(try clear JC);(try clear qaj);(try clear qak);(try clear qal);(try clear p2);obtain ⟨kq,Xs,rfl,HA,XE,Qz,Yg,HB⟩:=hcut
    cases kq with
    | zero=>exact absurd HA.out (by simp [Qg.j1])
    | succ GR =>
     have H:=HA.out;clear HA;simp only [Qg.j1] at H
     by_cases c36:Xs=true
     ·
      subst c36
      have H1:(some false)=some r:=by rw [if_pos rfl] at H;exact H
      clear H;have H:=H1;clear H1;obtain rfl:=Option.some.inj H
      go_wp2
      repeat (go_quiet (fail);try go_wp2)
      go_ret
      exact ⟨by first|rfl|(simp [Qx,Qy]<;>rfl)|(simp [*,Qx,Qy]<;>rfl),by repeat (first|(with_reducible first|exact HB.out|apply Q3|apply Q1|apply Q6|refine Q5 ?_ YQ.out|refine Q5 ?_ Z0.out)|exact HB.out)⟩
     replace c36:=Bool.eq_false_iff.mpr c36;subst c36
     have H1:((QO.f GR Qa Qe Qb Jb).bind fun qhO=>((Y6.f ZG (Qa.length:Int)).bind fun ZU=>((Y6.f Zu (Qb.length:Int)).bind fun Gc=>((QF.f GR Qa Qe Qb ZU Gc Jb l2).bind fun JP=>(if qhO.2.2.2=4 then (if JP.2=0 then (if 0≤Gc then (if Gc<(Qb.length:Int) then (if 0≤ZU then (if ZU<((Qq Qb Gc).length:Int) then (Qg.j2 GR Jb ZU JP.1 ((JP.1.length:Int) != ((QM (Qq Qb Gc) ZU).length:Int)) Qa Qe Qb) else (none)) else (none)) else (none)) else (none)) else (Qg.j2 GR Jb ZU JP.1 true Qa Qe Qb)) else (Qg.j2 GR Jb ZU JP.1 true Qa Qe Qb))))))=some r:=by rw [if_neg (show ¬ (false=true) by decide)] at H;exact H
     clear H;have H:=H1;clear H1;replace H:=Option.bind_eq_some_iff.mp H;obtain ⟨⟨quO,quP,quQ,qdc⟩,qva,H⟩:=H;replace H:((Y6.f ZG (Qa.length:Int)).bind fun ZU=>((Y6.f Zu (Qb.length:Int)).bind fun Gc=>((QF.f GR Qa Qe Qb ZU Gc Jb l2).bind fun JP=>(if qdc=4 then (if JP.2=0 then (if 0≤Gc then (if Gc<(Qb.length:Int) then (if 0≤ZU then (if ZU<((Qq Qb Gc).length:Int) then (Qg.j2 GR Jb ZU JP.1 ((JP.1.length:Int) != ((QM (Qq Qb Gc) ZU).length:Int)) Qa Qe Qb) else (none)) else (none)) else (none)) else (none)) else (Qg.j2 GR Jb ZU JP.1 true Qa Qe Qb)) else (Qg.j2 GR Jb ZU JP.1 true Qa Qe Qb)))))=some r:=H;have A37:=Q0.mk qva;clear qva;replace H:=Option.bind_eq_some_iff.mp H;obtain ⟨ZU,qvb,H⟩:=H;replace H:((Y6.f Zu (Qb.length:Int)).bind fun Gc=>((QF.f GR Qa Qe Qb ZU Gc Jb l2).bind fun JP=>(if qdc=4 then (if JP.2=0 then (if 0≤Gc then (if Gc<(Qb.length:Int) then (if 0≤ZU then (if ZU<((Qq Qb Gc).length:Int) then (Qg.j2 GR Jb ZU JP.1 ((JP.1.length:Int) != ((QM (Qq Qb Gc) ZU).length:Int)) Qa Qe Qb) else (none)) else (none)) else (none)) else (none)) else (Qg.j2 GR Jb ZU JP.1 true Qa Qe Qb)) else (Qg.j2 GR Jb ZU JP.1 true Qa Qe Qb))))=some r:=H;have A38:=Q0.mk qvb;clear qvb;replace H:=Option.bind_eq_some_iff.mp H;obtain ⟨Gc,qvc,H⟩:=H;replace H:((QF.f GR Qa Qe Qb ZU Gc Jb l2).bind fun JP=>(if qdc=4 then (if JP.2=0 then (if 0≤Gc then (if Gc<(Qb.length:Int) then (if 0≤ZU then (if ZU<((Qq Qb Gc).length:Int) then (Qg.j2 GR Jb ZU JP.1 ((JP.1.length:Int) != ((QM (Qq Qb Gc) ZU).length:Int)) Qa Qe Qb) else (none)) else (none)) else (none)) else (none)) else (Qg.j2 GR Jb ZU JP.1 true Qa Qe Qb)) else (Qg.j2 GR Jb ZU JP.1 true Qa Qe Qb)))=some r:=H;have A39:=Q0.mk qvc;clear qvc;replace H:=Option.bind_eq_some_iff.mp H;obtain ⟨⟨Wm,qha⟩,qvd,H⟩:=H;replace H:(if qdc=4 then (if qha=0 then (if 0≤Gc then (if Gc<(Qb.length:Int) then (if 0≤ZU then (if ZU<((Qq Qb Gc).length:Int) then (Qg.j2 GR Jb ZU Wm ((Wm.length:Int) != ((QM (Qq Qb Gc) ZU).length:Int)) Qa Qe Qb) else (none)) else (none)) else (none)) else (none)) else (Qg.j2 GR Jb ZU Wm true Qa Qe Qb)) else (Qg.j2 GR Jb ZU Wm true Qa Qe Qb))=some r:=H;have A40:=Q0.mk qvd;clear qvd;have qtm:=Q0.mk H;clear H;have qsQ:=Gl.out;have qsS:=Gm.out;have qf9:wc.cell? ⟨Yn,0,none⟩=some (.slice QC Qa.length Qs):=(Q8 Qz.out 0).trans rfl;have qga:wc.cell? ⟨Yn,1,none⟩=some (.slice QA Qe.length Qt):=(Q8 Qz.out 1).trans rfl;have qgb:wc.cell? ⟨Yn,2,none⟩=some (.slice QE Qb.length Qu):=(Q8 Qz.out 2).trans rfl;have qgy:=Q9 Qz.out 0;have qgz:=Q9 Qz.out 1;have qgA:=Q9 Qz.out 2
     go_upto_region 10 with (first|(go_at_call 32;(with_reducible refine (QO.calls GR _ _ Qa _ _ Qe _ _ Qb Jb quO quP quQ qdc _ ?side1 ?side2 ?side3 ?side4 ?side5 ?side6 A37.out).mono ?_);(case side1=>repeat (first|exact (Kd.C_below Z5.out HB.out)|(with_reducible refine Kd.C_alloc ?_ _)|(with_reducible refine Kd.C_drewN ?_ _)|(with_reducible refine Kd.C_drew ?_)));(case side2=>exact ZD.out);(case side3=>repeat (first|exact (Kd.C_below Zj.out HB.out)|(with_reducible refine Kd.C_alloc ?_ _)|(with_reducible refine Kd.C_drewN ?_ _)|(with_reducible refine Kd.C_drew ?_)));(case side4=>exact ZE.out);(case side5=>repeat (first|exact (Kd.C_below Z6.out HB.out)|(with_reducible refine Kd.C_alloc ?_ _)|(with_reducible refine Kd.C_drewN ?_ _)|(with_reducible refine Kd.C_drew ?_)));(case side6=>exact ZF.out);rintro e w44 ⟨rfl,hb⟩;have n0_:=Q0.mk (Qf (g:=Yn) (by (with_reducible repeat (first|refine Q4 ?_ _|refine Q7 ?_|refine Q2 ?_ _));exact Qz.out) hb);have n1_:=Q0.mk (Qf (g:=Ze) (by (with_reducible repeat (first|refine Q4 ?_ _|refine Q7 ?_|refine Q2 ?_ _));exact Yg.out) hb);have n2_:=Q0.mk (Qk (by repeat (first|(with_reducible first|exact HB.out|apply Q3|apply Q1|apply Q6|refine Q5 ?_ YQ.out|refine Q5 ?_ Z0.out)|exact HB.out)) hb);clear Qz Yg HB;have Qz:=n0_;have Yg:=n1_;have HB:=n2_;clear n0_ n1_ n2_;(try clear hb);(try clear hb2);(try clear hk);(try clear hi);have qds:w44.cell? ⟨Ze,0,none⟩=some (.int .i64 ZG):=(Q8 Yg.out 0).trans rfl;have qdt:w44.cell? ⟨Ze,1,none⟩=some (.int .i64 Zu):=(Q8 Yg.out 1).trans rfl;have qdE:=Q9 Yg.out 0;have qdF:=Q9 Yg.out 1;have qdu:w44.cell? ⟨Yn,0,none⟩=some (.slice QC Qa.length Qs):=(Q8 Qz.out 0).trans rfl;have qdv:w44.cell? ⟨Yn,1,none⟩=some (.slice QA Qe.length Qt):=(Q8 Qz.out 1).trans rfl;have qdw:w44.cell? ⟨Yn,2,none⟩=some (.slice QE Qb.length Qu):=(Q8 Qz.out 2).trans rfl;have qdG:=Q9 Qz.out 0;have qdH:=Q9 Qz.out 1;have qdI:=Q9 Qz.out 2)|(go_at_call 36;(with_reducible refine (Y6.calls ZG (Qa.length:Int) ZU _ A38.out).mono ?_);rintro e w' ⟨rfl,⟨nd,rfl⟩⟩;(try first|exact ⟨rfl,_,World.drewN_drewN _ _ _⟩|exact ⟨rfl,_,Eq.trans (World.drewN_drewN _ _ _) (congrArg (World.drewN _) (Nat.add_assoc _ _ _))⟩))|(go_at_call 36;(with_reducible refine (Y6.calls Zu (Qb.length:Int) Gc _ A39.out).mono ?_);rintro e w' ⟨rfl,⟨nd,rfl⟩⟩;(try first|exact ⟨rfl,_,World.drewN_drewN _ _ _⟩|exact ⟨rfl,_,Eq.trans (World.drewN_drewN _ _ _) (congrArg (World.drewN _) (Nat.add_assoc _ _ _))⟩))|(go_at_call 52;(with_reducible refine (QF.calls GR _ _ Qa _ _ Qe _ _ Qb ZU Gc Jb _ _ l2 Wm qha _ ?side1 ?side2 ?side3 ?side4 ?side5 ?side6 ?side7 ?side8 A40.out).mono ?_);(case side1=>repeat (first|exact (Kd.C_below Z5.out (by repeat (first|(with_reducible first|exact HB.out|apply Q3|apply Q1|apply Q6|refine Q5 ?_ YQ.out|refine Q5 ?_ Z0.out)|exact HB.out)))|(with_reducible refine Kd.C_alloc ?_ _)|(with_reducible refine Kd.C_drewN ?_ _)|(with_reducible refine Kd.C_drew ?_)));(case side2=>exact ZD.out);(case side3=>repeat (first|exact (Kd.C_below Zj.out (by repeat (first|(with_reducible first|exact HB.out|apply Q3|apply Q1|apply Q6|refine Q5 ?_ YQ.out|refine Q5 ?_ Z0.out)|exact HB.out)))|(with_reducible refine Kd.C_alloc ?_ _)|(with_reducible refine Kd.C_drewN ?_ _)|(with_reducible refine Kd.C_drew ?_)));(case side4=>exact ZE.out);(case side5=>repeat (first|exact (Kd.C_below Z6.out (by repeat (first|(with_reducible first|exact HB.out|apply Q3|apply Q1|apply Q6|refine Q5 ?_ YQ.out|refine Q5 ?_ Z0.out)|exact HB.out)))|(with_reducible refine Kd.C_alloc ?_ _)|(with_reducible refine Kd.C_drewN ?_ _)|(with_reducible refine Kd.C_drew ?_)));(case side6=>exact ZF.out);(case side7=>repeat (first|exact (Kd.C_below HR2.out (by repeat (first|(with_reducible first|exact HB.out|apply Q3|apply Q1|apply Q6|refine Q5 ?_ YQ.out|refine Q5 ?_ Z0.out)|exact HB.out)))|(with_reducible refine Kd.C_alloc ?_ _)|(with_reducible refine Kd.C_drewN ?_ _)|(with_reducible refine Kd.C_drew ?_)));(case side8=>exact HC2.out);rintro e w47 ⟨qrW,rfl,ho0,hb⟩;have n0_:=Q0.mk (Kd.V_lower (Kd.V_mono (ok':=fun k_=>k_≠Yn∧k_≠Ze) ho0 (fun k_ hk_=>⟨(Kd.freshB (g:=Yn) (by (with_reducible repeat (first|refine Q4 ?_ _|refine Q7 ?_|refine Q2 ?_ _));exact Qz.out) k_ hk_),(Kd.freshB (g:=Ze) (by (with_reducible repeat (first|refine Q4 ?_ _|refine Q7 ?_|refine Q2 ?_ _));exact Yg.out) k_ hk_)⟩)) (Qi (by repeat (first|(with_reducible first|exact HB.out|apply Q3|apply Q1|apply Q6|refine Q5 ?_ YQ.out|refine Q5 ?_ Z0.out)|exact HB.out))));have n1_:=Q0.mk (Qf (g:=Yn) (by (with_reducible repeat (first|refine Q4 ?_ _|refine Q7 ?_|refine Q2 ?_ _));exact Qz.out) hb);have n2_:=Q0.mk (Qf (g:=Ze) (by (with_reducible repeat (first|refine Q4 ?_ _|refine Q7 ?_|refine Q2 ?_ _));exact Yg.out) hb);have n3_:=Q0.mk (Qk (by repeat (first|(with_reducible first|exact HB.out|apply Q3|apply Q1|apply Q6|refine Q5 ?_ YQ.out|refine Q5 ?_ Z0.out)|exact HB.out)) hb);clear Qz Yg HB;have qff:=n0_;have Qz:=n1_;have Yg:=n2_;have HB:=n3_;clear n0_ n1_ n2_ n3_;(try clear hb);(try clear hb2);(try clear hk);(try clear hi);(try clear ho0)))
     repeat (go_quiet (first|(go_at_call 32;(with_reducible refine (QO.calls GR _ _ Qa _ _ Qe _ _ Qb Jb quO quP quQ qdc _ ?side1 ?side2 ?side3 ?side4 ?side5 ?side6 A37.out).mono ?_);(case side1=>repeat (first|exact (Kd.C_below Z5.out HB.out)|(with_reducible refine Kd.C_alloc ?_ _)|(with_reducible refine Kd.C_drewN ?_ _)|(with_reducible refine Kd.C_drew ?_)));(case side2=>exact ZD.out);(case side3=>repeat (first|exact (Kd.C_below Zj.out HB.out)|(with_reducible refine Kd.C_alloc ?_ _)|(with_reducible refine Kd.C_drewN ?_ _)|(with_reducible refine Kd.C_drew ?_)));(case side4=>exact ZE.out);(case side5=>repeat (first|exact (Kd.C_below Z6.out HB.out)|(with_reducible refine Kd.C_alloc ?_ _)|(with_reducible refine Kd.C_drewN ?_ _)|(with_reducible refine Kd.C_drew ?_)));(case side6=>exact ZF.out);rintro e w44 ⟨rfl,hb⟩;have n0_:=Q0.mk (Qf (g:=Yn) (by (with_reducible repeat (first|refine Q4 ?_ _|refine Q7 ?_|refine Q2 ?_ _));exact Qz.out) hb);have n1_:=Q0.mk (Qf (g:=Ze) (by (with_reducible repeat (first|refine Q4 ?_ _|refine Q7 ?_|refine Q2 ?_ _));exact Yg.out) hb);have n2_:=Q0.mk (Qk (by repeat (first|(with_reducible first|exact HB.out|apply Q3|apply Q1|apply Q6|refine Q5 ?_ YQ.out|refine Q5 ?_ Z0.out)|exact HB.out)) hb);clear Qz Yg HB;have Qz:=n0_;have Yg:=n1_;have HB:=n2_;clear n0_ n1_ n2_;(try clear hb);(try clear hb2);(try clear hk);(try clear hi);have qds:w44.cell? ⟨Ze,0,none⟩=some (.int .i64 ZG):=(Q8 Yg.out 0).trans rfl;have qdt:w44.cell? ⟨Ze,1,none⟩=some (.int .i64 Zu):=(Q8 Yg.out 1).trans rfl;have qdE:=Q9 Yg.out 0;have qdF:=Q9 Yg.out 1;have qdu:w44.cell? ⟨Yn,0,none⟩=some (.slice QC Qa.length Qs):=(Q8 Qz.out 0).trans rfl;have qdv:w44.cell? ⟨Yn,1,none⟩=some (.slice QA Qe.length Qt):=(Q8 Qz.out 1).trans rfl;have qdw:w44.cell? ⟨Yn,2,none⟩=some (.slice QE Qb.length Qu):=(Q8 Qz.out 2).trans rfl;have qdG:=Q9 Qz.out 0;have qdH:=Q9 Qz.out 1;have qdI:=Q9 Qz.out 2)|(go_at_call 36;(with_reducible refine (Y6.calls ZG (Qa.length:Int) ZU _ A38.out).mono ?_);rintro e w' ⟨rfl,⟨nd,rfl⟩⟩;(try first|exact ⟨rfl,_,World.drewN_drewN _ _ _⟩|exact ⟨rfl,_,Eq.trans (World.drewN_drewN _ _ _) (congrArg (World.drewN _) (Nat.add_assoc _ _ _))⟩))|(go_at_call 36;(with_reducible refine (Y6.calls Zu (Qb.length:Int) Gc _ A39.out).mono ?_);rintro e w' ⟨rfl,⟨nd,rfl⟩⟩;(try first|exact ⟨rfl,_,World.drewN_drewN _ _ _⟩|exact ⟨rfl,_,Eq.trans (World.drewN_drewN _ _ _) (congrArg (World.drewN _) (Nat.add_assoc _ _ _))⟩))|(go_at_call 52;(with_reducible refine (QF.calls GR _ _ Qa _ _ Qe _ _ Qb ZU Gc Jb _ _ l2 Wm qha _ ?side1 ?side2 ?side3 ?side4 ?side5 ?side6 ?side7 ?side8 A40.out).mono ?_);(case side1=>repeat (first|exact (Kd.C_below Z5.out (by repeat (first|(with_reducible first|exact HB.out|apply Q3|apply Q1|apply Q6|refine Q5 ?_ YQ.out|refine Q5 ?_ Z0.out)|exact HB.out)))|(with_reducible refine Kd.C_alloc ?_ _)|(with_reducible refine Kd.C_drewN ?_ _)|(with_reducible refine Kd.C_drew ?_)));(case side2=>exact ZD.out);(case side3=>repeat (first|exact (Kd.C_below Zj.out (by repeat (first|(with_reducible first|exact HB.out|apply Q3|apply Q1|apply Q6|refine Q5 ?_ YQ.out|refine Q5 ?_ Z0.out)|exact HB.out)))|(with_reducible refine Kd.C_alloc ?_ _)|(with_reducible refine Kd.C_drewN ?_ _)|(with_reducible refine Kd.C_drew ?_)));(case side4=>exact ZE.out);(case side5=>repeat (first|exact (Kd.C_below Z6.out (by repeat (first|(with_reducible first|exact HB.out|apply Q3|apply Q1|apply Q6|refine Q5 ?_ YQ.out|refine Q5 ?_ Z0.out)|exact HB.out)))|(with_reducible refine Kd.C_alloc ?_ _)|(with_reducible refine Kd.C_drewN ?_ _)|(with_reducible refine Kd.C_drew ?_)));(case side6=>exact ZF.out);(case side7=>repeat (first|exact (Kd.C_below HR2.out (by repeat (first|(with_reducible first|exact HB.out|apply Q3|apply Q1|apply Q6|refine Q5 ?_ YQ.out|refine Q5 ?_ Z0.out)|exact HB.out)))|(with_reducible refine Kd.C_alloc ?_ _)|(with_reducible refine Kd.C_drewN ?_ _)|(with_reducible refine Kd.C_drew ?_)));(case side8=>exact HC2.out);rintro e w47 ⟨qrW,rfl,ho0,hb⟩;have n0_:=Q0.mk (Kd.V_lower (Kd.V_mono (ok':=fun k_=>k_≠Yn∧k_≠Ze) ho0 (fun k_ hk_=>⟨(Kd.freshB (g:=Yn) (by (with_reducible repeat (first|refine Q4 ?_ _|refine Q7 ?_|refine Q2 ?_ _));exact Qz.out) k_ hk_),(Kd.freshB (g:=Ze) (by (with_reducible repeat (first|refine Q4 ?_ _|refine Q7 ?_|refine Q2 ?_ _));exact Yg.out) k_ hk_)⟩)) (Qi (by repeat (first|(with_reducible first|exact HB.out|apply Q3|apply Q1|apply Q6|refine Q5 ?_ YQ.out|refine Q5 ?_ Z0.out)|exact HB.out))));have n1_:=Q0.mk (Qf (g:=Yn) (by (with_reducible repeat (first|refine Q4 ?_ _|refine Q7 ?_|refine Q2 ?_ _));exact Qz.out) hb);have n2_:=Q0.mk (Qf (g:=Ze) (by (with_reducible repeat (first|refine Q4 ?_ _|refine Q7 ?_|refine Q2 ?_ _));exact Yg.out) hb);have n3_:=Q0.mk (Qk (by repeat (first|(with_reducible first|exact HB.out|apply Q3|apply Q1|apply Q6|refine Q5 ?_ YQ.out|refine Q5 ?_ Z0.out)|exact HB.out)) hb);clear Qz Yg HB;have qff:=n0_;have Qz:=n1_;have Yg:=n2_;have HB:=n3_;clear n0_ n1_ n2_ n3_;(try clear hb);(try clear hb2);(try clear hk);(try clear hi);(try clear ho0)));go_upto_region 10 with (first|(go_at_call 32;(with_reducible refine (QO.calls GR _ _ Qa _ _ Qe _ _ Qb Jb quO quP quQ qdc _ ?side1 ?side2 ?side3 ?side4 ?side5 ?side6 A37.out).mono ?_);(case side1=>repeat (first|exact (Kd.C_below Z5.out HB.out)|(with_reducible refine Kd.C_alloc ?_ _)|(with_reducible refine Kd.C_drewN ?_ _)|(with_reducible refine Kd.C_drew ?_)));(case side2=>exact ZD.out);(case side3=>repeat (first|exact (Kd.C_below Zj.out HB.out)|(with_reducible refine Kd.C_alloc ?_ _)|(with_reducible refine Kd.C_drewN ?_ _)|(with_reducible refine Kd.C_drew ?_)));(case side4=>exact ZE.out);(case side5=>repeat (first|exact (Kd.C_below Z6.out HB.out)|(with_reducible refine Kd.C_alloc ?_ _)|(with_reducible refine Kd.C_drewN ?_ _)|(with_reducible refine Kd.C_drew ?_)));(case side6=>exact ZF.out);rintro e w44 ⟨rfl,hb⟩;have n0_:=Q0.mk (Qf (g:=Yn) (by (with_reducible repeat (first|refine Q4 ?_ _|refine Q7 ?_|refine Q2 ?_ _));exact Qz.out) hb);have n1_:=Q0.mk (Qf (g:=Ze) (by (with_reducible repeat (first|refine Q4 ?_ _|refine Q7 ?_|refine Q2 ?_ _));exact Yg.out) hb);have n2_:=Q0.mk (Qk (by repeat (first|(with_reducible first|exact HB.out|apply Q3|apply Q1|apply Q6|refine Q5 ?_ YQ.out|refine Q5 ?_ Z0.out)|exact HB.out)) hb);clear Qz Yg HB;have Qz:=n0_;have Yg:=n1_;have HB:=n2_;clear n0_ n1_ n2_;(try clear hb);(try clear hb2);(try clear hk);(try clear hi);have qds:w44.cell? ⟨Ze,0,none⟩=some (.int .i64 ZG):=(Q8 Yg.out 0).trans rfl;have qdt:w44.cell? ⟨Ze,1,none⟩=some (.int .i64 Zu):=(Q8 Yg.out 1).trans rfl;have qdE:=Q9 Yg.out 0;have qdF:=Q9 Yg.out 1;have qdu:w44.cell? ⟨Yn,0,none⟩=some (.slice QC Qa.length Qs):=(Q8 Qz.out 0).trans rfl;have qdv:w44.cell? ⟨Yn,1,none⟩=some (.slice QA Qe.length Qt):=(Q8 Qz.out 1).trans rfl;have qdw:w44.cell? ⟨Yn,2,none⟩=some (.slice QE Qb.length Qu):=(Q8 Qz.out 2).trans rfl;have qdG:=Q9 Qz.out 0;have qdH:=Q9 Qz.out 1;have qdI:=Q9 Qz.out 2)|(go_at_call 36;(with_reducible refine (Y6.calls ZG (Qa.length:Int) ZU _ A38.out).mono ?_);rintro e w' ⟨rfl,⟨nd,rfl⟩⟩;(try first|exact ⟨rfl,_,World.drewN_drewN _ _ _⟩|exact ⟨rfl,_,Eq.trans (World.drewN_drewN _ _ _) (congrArg (World.drewN _) (Nat.add_assoc _ _ _))⟩))|(go_at_call 36;(with_reducible refine (Y6.calls Zu (Qb.length:Int) Gc _ A39.out).mono ?_);rintro e w' ⟨rfl,⟨nd,rfl⟩⟩;(try first|exact ⟨rfl,_,World.drewN_drewN _ _ _⟩|exact ⟨rfl,_,Eq.trans (World.drewN_drewN _ _ _) (congrArg (World.drewN _) (Nat.add_assoc _ _ _))⟩))|(go_at_call 52;(with_reducible refine (QF.calls GR _ _ Qa _ _ Qe _ _ Qb ZU Gc Jb _ _ l2 Wm qha _ ?side1 ?side2 ?side3 ?side4 ?side5 ?side6 ?side7 ?side8 A40.out).mono ?_);(case side1=>repeat (first|exact (Kd.C_below Z5.out (by repeat (first|(with_reducible first|exact HB.out|apply Q3|apply Q1|apply Q6|refine Q5 ?_ YQ.out|refine Q5 ?_ Z0.out)|exact HB.out)))|(with_reducible refine Kd.C_alloc ?_ _)|(with_reducible refine Kd.C_drewN ?_ _)|(with_reducible refine Kd.C_drew ?_)));(case side2=>exact ZD.out);(case side3=>repeat (first|exact (Kd.C_below Zj.out (by repeat (first|(with_reducible first|exact HB.out|apply Q3|apply Q1|apply Q6|refine Q5 ?_ YQ.out|refine Q5 ?_ Z0.out)|exact HB.out)))|(with_reducible refine Kd.C_alloc ?_ _)|(with_reducible refine Kd.C_drewN ?_ _)|(with_reducible refine Kd.C_drew ?_)));(case side4=>exact ZE.out);(case side5=>repeat (first|exact (Kd.C_below Z6.out (by repeat (first|(with_reducible first|exact HB.out|apply Q3|apply Q1|apply Q6|refine Q5 ?_ YQ.out|refine Q5 ?_ Z0.out)|exact HB.out)))|(with_reducible refine Kd.C_alloc ?_ _)|(with_reducible refine Kd.C_drewN ?_ _)|(with_reducible refine Kd.C_drew ?_)));(case side6=>exact ZF.out);(case side7=>repeat (first|exact (Kd.C_below HR2.out (by repeat (first|(with_reducible first|exact HB.out|apply Q3|apply Q1|apply Q6|refine Q5 ?_ YQ.out|refine Q5 ?_ Z0.out)|exact HB.out)))|(with_reducible refine Kd.C_alloc ?_ _)|(with_reducible refine Kd.C_drewN ?_ _)|(with_reducible refine Kd.C_drew ?_)));(case side8=>exact HC2.out);rintro e w47 ⟨qrW,rfl,ho0,hb⟩;have n0_:=Q0.mk (Kd.V_lower (Kd.V_mono (ok':=fun k_=>k_≠Yn∧k_≠Ze) ho0 (fun k_ hk_=>⟨(Kd.freshB (g:=Yn) (by (with_reducible repeat (first|refine Q4 ?_ _|refine Q7 ?_|refine Q2 ?_ _));exact Qz.out) k_ hk_),(Kd.freshB (g:=Ze) (by (with_reducible repeat (first|refine Q4 ?_ _|refine Q7 ?_|refine Q2 ?_ _));exact Yg.out) k_ hk_)⟩)) (Qi (by repeat (first|(with_reducible first|exact HB.out|apply Q3|apply Q1|apply Q6|refine Q5 ?_ YQ.out|refine Q5 ?_ Z0.out)|exact HB.out))));have n1_:=Q0.mk (Qf (g:=Yn) (by (with_reducible repeat (first|refine Q4 ?_ _|refine Q7 ?_|refine Q2 ?_ _));exact Qz.out) hb);have n2_:=Q0.mk (Qf (g:=Ze) (by (with_reducible repeat (first|refine Q4 ?_ _|refine Q7 ?_|refine Q2 ?_ _));exact Yg.out) hb);have n3_:=Q0.mk (Qk (by repeat (first|(with_reducible first|exact HB.out|apply Q3|apply Q1|apply Q6|refine Q5 ?_ YQ.out|refine Q5 ?_ Z0.out)|exact HB.out)) hb);clear Qz Yg HB;have qff:=n0_;have Qz:=n1_;have Yg:=n2_;have HB:=n3_;clear n0_ n1_ n2_ n3_;(try clear hb);(try clear hb2);(try clear hk);(try clear hi);(try clear ho0))))
     (try simp only [Act.put,List.setIfInBounds_toArray,List.set_cons_zero,List.set_cons_succ])
     go_cut [114] (fun qF4 wc => ∃ (kq:Nat) (qd6:Bool),qF4 = .bool qd6∧Q0 (Qg.j2 kq Jb ZU Wm qd6 Qa Qe Qb=some r)∧Q0 (kq≤GR)∧Q0 (Kd.V (Kd.int .i64) 3 wc w.heap.size (fun k_=>k_≠Yn∧k_≠Ze) qrW Wm)∧Q0 (wc.heap[Yn]? = some (.cells #[(.slice QC Qa.length Qs),(.slice QA Qe.length Qt),(.slice QE Qb.length Qu)] 47 (0,0)))∧Q0 (wc.heap[Ze]? = some (.cells #[.int .i64 ZG,.int .i64 Zu] 23 (0,0)))∧Q0 (Below w.heap.size w wc))
     case first =>
      have H:=qtm.out;clear qtm
      by_cases c48:qdc=4
      ·
       rw [if_pos c48] at H;have c48b0:(qdc==4)=true:=beq_iff_eq.mpr c48;have c48b1:(qdc != 4)=false:=bne_eq_false_iff_eq.mpr c48;clear c48
       (first|rw [c48b0]|(simp only [QK,QP];rw [c48b0])|skip)
       by_cases c49:qha=0
       ·
        rw [if_pos c49] at H;have c49b0:(qha==0)=true:=beq_iff_eq.mpr c49;have c49b1:(qha != 0)=false:=bne_eq_false_iff_eq.mpr c49;clear c49
        by_cases c50:0≤Gc
        ·
         rw [if_pos c50] at H;have c50b0:decide (0≤Gc)=true:=decide_eq_true c50;clear c50
         by_cases c51:Gc<(Qb.length:Int)
         ·
          rw [if_pos c51] at H;have c51b0:decide (Gc<(Qb.length:Int))=true:=decide_eq_true c51;clear c51
          by_cases c52:0≤ZU
          ·
           rw [if_pos c52] at H;have c52b0:decide (0≤ZU)=true:=decide_eq_true c52;clear c52
           by_cases c53:ZU<((Qq Qb Gc).length:Int)
           ·
            rw [if_pos c53] at H;have c53b0:decide (ZU<((Qq Qb Gc).length:Int))=true:=decide_eq_true c53;clear c53;have H':=Q0.mk H;clear H;obtain ⟨qIy,qIE,qFj⟩:=Kd.V_slice qff.out;subst qFj;have qHk:=Gl.out;have qH2:=Gm.out;have qli:w47.cell? ⟨Yn,0,none⟩=some (.slice QC Qa.length Qs):=(Q8 Qz.out 0).trans rfl;have qlj:w47.cell? ⟨Yn,1,none⟩=some (.slice QA Qe.length Qt):=(Q8 Qz.out 1).trans rfl;have qlk:w47.cell? ⟨Yn,2,none⟩=some (.slice QE Qb.length Qu):=(Q8 Qz.out 2).trans rfl;have qlq:=Q9 Qz.out 0;have qlr:=Q9 Qz.out 1;have qls:=Q9 Qz.out 2;have qoX:0≤(Gc:Int):=of_decide_eq_true (by first|(with_reducible assumption)|assumption);have qo3:Gc<(Qb.length:Int):=of_decide_eq_true (by first|(with_reducible assumption)|assumption);obtain ⟨qGD,qEv,qEI,qE5,qcj,ql7,qlM⟩:=XB Z6.out Gc qoX qo3;cases qE5;replace qcj:=(HB.out.cell (World.block_lt_of_cell? w _ qcj)).trans qcj;have qpM:=Q0.mk qlM;have qyv:=Q0.mk ql7;clear qlM ql7;replace qoX:=eq_true qoX;replace qo3:=eq_true qo3;have qoY:0≤(ZU:Int):=of_decide_eq_true (by first|(with_reducible assumption)|assumption);have qo4:ZU<((Qq Qb Gc).length:Int):=of_decide_eq_true (by first|(with_reducible assumption)|assumption);obtain ⟨qGE,qEw,qEJ,qE6,qck,ql8,qlN⟩:=XA qpM.out ZU qoY qo4;cases qE6;replace qck:=(HB.out.cell (World.block_lt_of_cell? w _ qck)).trans qck;have qyy:=Q0.mk qlN;have qyw:=Q0.mk ql8;clear qlN ql8;replace qoY:=eq_true qoY;replace qo4:=eq_true qo4
            go_wp2
            repeat (go_quiet (fail);try go_wp2)
            go_meet
            case rel=>exact ⟨_,(((Wm.length:Int) != ((QM (Qq Qb Gc) ZU).length:Int))),(by first|rfl|(simp;done)|(simp [*];done)),H',⟨by have:=HJ5.out;have:=XE.out;first|omega|exact Nat.le_refl _⟩,⟨by (with_reducible repeat (first|apply Kd.V_alloc|apply Kd.V_drewN|apply Kd.V_drew));exact qff.out⟩,⟨by (with_reducible repeat (first|refine Q4 ?_ _|refine Q7 ?_|refine Q2 ?_ _));exact Qz.out⟩,⟨by (with_reducible repeat (first|refine Q4 ?_ _|refine Q7 ?_|refine Q2 ?_ _));exact Yg.out⟩,⟨by repeat (first|(with_reducible first|exact HB.out|apply Q3|apply Q1|apply Q6|refine Q5 ?_ YQ.out|refine Q5 ?_ Z0.out)|exact HB.out)⟩⟩
           rw [if_neg c53] at H
           exact absurd H (by simp)
          rw [if_neg c52] at H
          exact absurd H (by simp)
         rw [if_neg c51] at H
         exact absurd H (by simp)
        rw [if_neg c50] at H
        exact absurd H (by simp)
       rw [if_neg c49] at H;have c49b0:(qha==0)=false:=beq_eq_false_iff_ne.mpr c49;have c49b1:(qha != 0)=true:=bne_iff_ne.mpr c49;have H':=Q0.mk H;clear H
       go_wp2
       repeat (go_quiet (fail);try go_wp2)
       go_meet
       case rel=>exact ⟨_,(true),(by first|rfl|(simp;done)|(simp [*];done)),H',⟨by have:=HJ5.out;have:=XE.out;first|omega|exact Nat.le_refl _⟩,⟨by (with_reducible repeat (first|apply Kd.V_alloc|apply Kd.V_drewN|apply Kd.V_drew));exact qff.out⟩,⟨by (with_reducible repeat (first|refine Q4 ?_ _|refine Q7 ?_|refine Q2 ?_ _));exact Qz.out⟩,⟨by (with_reducible repeat (first|refine Q4 ?_ _|refine Q7 ?_|refine Q2 ?_ _));exact Yg.out⟩,⟨by repeat (first|(with_reducible first|exact HB.out|apply Q3|apply Q1|apply Q6|refine Q5 ?_ YQ.out|refine Q5 ?_ Z0.out)|exact HB.out)⟩⟩
      rw [if_neg c48] at H;have c48b0:(qdc==4)=false:=beq_eq_false_iff_ne.mpr c48;have c48b1:(qdc != 4)=true:=bne_iff_ne.mpr c48
      (first|rw [c48b0]|(simp only [QK,QP];rw [c48b0])|skip)
      have H':=Q0.mk H;clear H
      go_wp2
      repeat (go_quiet (fail);try go_wp2)
      go_meet
      case rel=>exact ⟨_,(true),(by first|rfl|(simp;done)|(simp [*];done)),H',⟨by have:=HJ5.out;have:=XE.out;first|omega|exact Nat.le_refl _⟩,⟨by (with_reducible repeat (first|apply Kd.V_alloc|apply Kd.V_drewN|apply Kd.V_drew));exact qff.out⟩,⟨by (with_reducible repeat (first|refine Q4 ?_ _|refine Q7 ?_|refine Q2 ?_ _));exact Qz.out⟩,⟨by (with_reducible repeat (first|refine Q4 ?_ _|refine Q7 ?_|refine Q2 ?_ _));exact Yg.out⟩,⟨by repeat (first|(with_reducible first|exact HB.out|apply Q3|apply Q1|apply Q6|refine Q5 ?_ YQ.out|refine Q5 ?_ Z0.out)|exact HB.out)⟩⟩
     case rest =>
      clear qtm;(try clear c1);(try clear c2);(try clear p2);(try clear c3);(try clear c4);(try clear c5);(try clear c9);(try clear p9);(try clear q9);(try clear hx9);(try clear c14);(try clear c14b0);(try clear c14b1);(try clear c16);(try clear c19);(try clear c20);(try clear c20b0);(try clear c20b1);(try clear c21);(try clear c21b0);(try clear c21b1);(try clear c22);(try clear c22b0);(try clear c22b1);(try clear c25);(try clear c25b0);(try clear c25b1);(try clear c26);(try clear c26b0);(try clear c26b1);(try clear c29);(try clear c29b0);(try clear c29b1);(try clear c30);(try clear c30b0);(try clear c30b1);(try clear c35);(try clear c36);(try clear c42);(try clear c48);(try clear c48b0);(try clear c48b1);(try clear c49);(try clear c49b0);(try clear c49b1);(try clear c50);(try clear c50b0);(try clear c51);(try clear c51b0);(try clear c52);(try clear c52b0);(try clear c53);(try clear c53b0);(try clear c55);(try clear ZI);(try clear ZJ);(try clear ZP);(try clear Ju);(try clear Jv);(try clear JA);(try clear qad);(try clear qae);(try clear qaf);(try clear qf9);(try clear qga);(try clear qgb);(try clear qds);(try clear qdt);(try clear qdu);(try clear qdv);(try clear qdw);(try clear qli);(try clear qlj);(try clear qlk);(try clear ZK);(try clear ZL);(try clear ZQ);(try clear Jw);(try clear Jx);(try clear JC);(try clear qaj);(try clear qak);(try clear qal);(try clear qgy);(try clear qgz);(try clear qgA);(try clear qdE);(try clear qdF);(try clear qdG);(try clear qdH);(try clear qdI);(try clear qlq);(try clear qlr);(try clear qls);(try clear qcj);(try clear qck);(try clear p2);(try clear qoX);(try clear qoY);(try clear qo3);(try clear qo4);obtain ⟨kq,qd6,rfl,HA,qvy,HO_15,Qz,Yg,HB⟩:=hcut
      cases kq with
      | zero=>exact absurd HA.out (by simp [Qg.j2])
      | succ qua =>
       have H:=HA.out;clear HA;simp only [Qg.j2] at H
       by_cases c57:qd6=true
       ·
        subst c57
        have H1:(some false)=some r:=by rw [if_pos rfl] at H;exact H
        clear H;have H:=H1;clear H1;obtain rfl:=Option.some.inj H
        go_wp2
        repeat (go_quiet (fail);try go_wp2)
        go_ret
        exact ⟨by first|rfl|(simp [Qx,Qy]<;>rfl)|(simp [*,Qx,Qy]<;>rfl),by repeat (first|(with_reducible first|exact HB.out|apply Q3|apply Q1|apply Q6|refine Q5 ?_ YQ.out|refine Q5 ?_ Z0.out)|exact HB.out)⟩
       replace c57:=Bool.eq_false_iff.mpr c57;subst c57
       have H1:(Qg.l0 qua Jb ZU Wm 0 Qa Qe Qb)=some r:=by rw [if_neg (show ¬ (false=true) by decide)] at H;exact H
       clear H;have H:=H1;clear H1;have H':=Q0.mk H;clear H
       go_wp2
       repeat (go_quiet (fail);try go_wp2)
       go_loopg [17] qua (fun kq v17 w' => ∃ (OG:Int),v17 = .int .i64 OG∧Q0 (Qg.l0 kq Jb ZU Wm OG Qa Qe Qb=some r)∧Q0 (kq≤qua)∧Q0 (Kd.V (Kd.int .i64) 3 w' w.heap.size (fun k_=>k_≠Yn∧k_≠Ze) qrW Wm)∧Q0 (w'.heap[Yn]? = some (.cells #[(.slice QC Qa.length Qs),(.slice QA Qe.length Qt),(.slice QE Qb.length Qu)] 47 (0,0)))∧Q0 (w'.heap[Ze]? = some (.cells #[.int .i64 ZG,.int .i64 Zu] 23 (0,0)))∧Q0 (Below w.heap.size w w'))
       case atStart=>exact ⟨(0),(by first|rfl|(simp;done)|(simp [*];done)),H',⟨Nat.le_refl _⟩,⟨by (with_reducible repeat (first|apply Kd.V_alloc|apply Kd.V_drewN|apply Kd.V_drew));exact HO_15.out⟩,⟨by (with_reducible repeat (first|refine Q4 ?_ _|refine Q7 ?_|refine Q2 ?_ _));exact Qz.out⟩,⟨by (with_reducible repeat (first|refine Q4 ?_ _|refine Q7 ?_|refine Q2 ?_ _));exact Yg.out⟩,⟨by repeat (first|(with_reducible first|exact HB.out|apply Q3|apply Q1|apply Q6|refine Q5 ?_ YQ.out|refine Q5 ?_ Z0.out)|exact HB.out)⟩⟩
       case round =>
        clear H';(try clear c1);(try clear c2);(try clear p2);(try clear c3);(try clear c4);(try clear c5);(try clear c9);(try clear p9);(try clear q9);(try clear hx9);(try clear c14);(try clear c14b0);(try clear c14b1);(try clear c16);(try clear c19);(try clear c20);(try clear c20b0);(try clear c20b1);(try clear c21);(try clear c21b0);(try clear c21b1);(try clear c22);(try clear c22b0);(try clear c22b1);(try clear c25);(try clear c25b0);(try clear c25b1);(try clear c26);(try clear c26b0);(try clear c26b1);(try clear c29);(try clear c29b0);(try clear c29b1);(try clear c30);(try clear c30b0);(try clear c30b1);(try clear c35);(try clear c36);(try clear c42);(try clear c48);(try clear c48b0);(try clear c48b1);(try clear c49);(try clear c49b0);(try clear c49b1);(try clear c50);(try clear c50b0);(try clear c51);(try clear c51b0);(try clear c52);(try clear c52b0);(try clear c53);(try clear c53b0);(try clear c55);(try clear c57);(try clear ZI);(try clear ZJ);(try clear ZP);(try clear Ju);(try clear Jv);(try clear JA);(try clear qad);(try clear qae);(try clear qaf);(try clear qf9);(try clear qga);(try clear qgb);(try clear qds);(try clear qdt);(try clear qdu);(try clear qdv);(try clear qdw);(try clear qli);(try clear qlj);(try clear qlk);(try clear ZK);(try clear ZL);(try clear ZQ);(try clear Jw);(try clear Jx);(try clear JC);(try clear qaj);(try clear qak);(try clear qal);(try clear qgy);(try clear qgz);(try clear qgA);(try clear qdE);(try clear qdF);(try clear qdG);(try clear qdH);(try clear qdI);(try clear qlq);(try clear qlr);(try clear qls);(try clear qcj);(try clear qck);(try clear p2);(try clear p9);(try clear qoX);(try clear qoY);(try clear q9);(try clear qo3);(try clear qo4);obtain ⟨OG,rfl,HA,HK4,HO_15,Qz,Yg,HB⟩:=hrel
        cases gk with
        | zero=>exact absurd HA.out (by simp [Qg.l0])
        | succ k4 =>
         have H:=HA.out;clear HA;simp only [Qg.l0] at H
         by_cases c58:OG<(Wm.length:Int)
         ·
          rw [if_pos c58] at H;have c58b0:decide (OG<(Wm.length:Int))=true:=decide_eq_true c58;clear c58
          by_cases c59:0≤OG
          ·
           rw [if_pos c59] at H;have c59b0:decide (0≤OG)=true:=decide_eq_true c59;clear c59
           by_cases c60:0≤ZU
           ·
            rw [if_pos c60] at H;have c60b0:decide (0≤ZU)=true:=decide_eq_true c60;clear c60
            by_cases c61:ZU<(Qa.length:Int)
            ·
             rw [if_pos c61] at H;have c61b0:decide (ZU<(Qa.length:Int))=true:=decide_eq_true c61;clear c61
             by_cases c62:(rd Wm OG)<((Qc Qa ZU).f3)
             ·
              rw [if_pos c62] at H;have c62b0:decide ((rd Wm OG)<((Qc Qa ZU).f3))=true:=decide_eq_true c62;clear c62;obtain rfl:=Option.some.inj H;obtain ⟨qIz,qIF,qFk⟩:=Kd.V_slice HO_15.out;subst qFk;have qj6:0≤(OG:Int):=of_decide_eq_true (by first|(with_reducible assumption)|assumption);have qko:OG<(Wm.length:Int):=of_decide_eq_true (by first|(with_reducible assumption)|assumption);obtain ⟨qv6,qtR,qrq⟩:=Kd.at_int (Kd.V_reads' HO_15.out).2.2 OG qj6 qko;cases qtR;replace qj6:=eq_true qj6;replace qko:=eq_true qko;have qHq:=Gl.out;have qH8:=Gm.out;have qzx:wr.cell? ⟨Yn,0,none⟩=some (.slice QC Qa.length Qs):=(Q8 Qz.out 0).trans rfl;have qzy:wr.cell? ⟨Yn,1,none⟩=some (.slice QA Qe.length Qt):=(Q8 Qz.out 1).trans rfl;have qzz:wr.cell? ⟨Yn,2,none⟩=some (.slice QE Qb.length Qu):=(Q8 Qz.out 2).trans rfl;have qBE:=Q9 Qz.out 0;have qBF:=Q9 Qz.out 1;have qBG:=Q9 Qz.out 2;have qj7:0≤(ZU:Int):=of_decide_eq_true (by first|(with_reducible assumption)|assumption);have qkp:ZU<(Qa.length:Int):=of_decide_eq_true (by first|(with_reducible assumption)|assumption);obtain ⟨qv7,qs8,qtz,qs9,qtA,qta,qtB,qtS,Xi,Xj,Xk,Xl,Xm,qb5,qbR,qb6,qbS,qb7,qbT⟩:=XI Z5.out ZU qj7 qkp;cases qtS;replace Xi:=(HB.out.cell (World.block_lt_of_cell? w _ Xi)).trans Xi;replace Xj:=(HB.out.cell (World.block_lt_of_cell? w _ Xj)).trans Xj;replace Xk:=(HB.out.cell (World.block_lt_of_cell? w _ Xk)).trans Xk;replace Xl:=(HB.out.cell (World.block_lt_of_cell? w _ Xl)).trans Xl;replace Xm:=(HB.out.cell (World.block_lt_of_cell? w _ Xm)).trans Xm;have qpN:=Q0.mk qbR;have qpD:=Q0.mk qb5;clear qbR qb5;have qpO:=Q0.mk qbS;have qpE:=Q0.mk qb6;clear qbS qb6;have qpP:=Q0.mk qbT;have qpF:=Q0.mk qb7;clear qbT qb7;replace qj7:=eq_true qj7;replace qkp:=eq_true qkp
              go_wp2
              repeat (go_quiet (fail);try go_wp2)
              go_ret
              exact ⟨by first|rfl|(simp [Qx,Qy]<;>rfl)|(simp [*,Qx,Qy]<;>rfl),by repeat (first|(with_reducible first|exact HB.out|apply Q3|apply Q1|apply Q6|refine Q5 ?_ YQ.out|refine Q5 ?_ Z0.out)|exact HB.out)⟩
             rw [if_neg c62] at H;have c62b0:decide ((rd Wm OG)<((Qc Qa ZU).f3))=false:=decide_eq_false c62;clear c62;have H':=Q0.mk H;clear H;obtain ⟨qIA,qIG,qFl⟩:=Kd.V_slice HO_15.out;subst qFl;have qj6:0≤(OG:Int):=of_decide_eq_true (by first|(with_reducible assumption)|assumption);have qko:OG<(Wm.length:Int):=of_decide_eq_true (by first|(with_reducible assumption)|assumption);obtain ⟨qv6,qtR,qrq⟩:=Kd.at_int (Kd.V_reads' HO_15.out).2.2 OG qj6 qko;cases qtR;replace qj6:=eq_true qj6;replace qko:=eq_true qko;have qHs:=Gl.out;have qIa:=Gm.out;have qzJ:wr.cell? ⟨Yn,0,none⟩=some (.slice QC Qa.length Qs):=(Q8 Qz.out 0).trans rfl;have qzK:wr.cell? ⟨Yn,1,none⟩=some (.slice QA Qe.length Qt):=(Q8 Qz.out 1).trans rfl;have qzL:wr.cell? ⟨Yn,2,none⟩=some (.slice QE Qb.length Qu):=(Q8 Qz.out 2).trans rfl;have qBQ:=Q9 Qz.out 0;have qBR:=Q9 Qz.out 1;have qBS:=Q9 Qz.out 2;have qj7:0≤(ZU:Int):=of_decide_eq_true (by first|(with_reducible assumption)|assumption);have qkp:ZU<(Qa.length:Int):=of_decide_eq_true (by first|(with_reducible assumption)|assumption);obtain ⟨qv7,qs8,qtz,qs9,qtA,qta,qtB,qtS,Xi,Xj,Xk,Xl,Xm,qb5,qbR,qb6,qbS,qb7,qbT⟩:=XI Z5.out ZU qj7 qkp;cases qtS;replace Xi:=(HB.out.cell (World.block_lt_of_cell? w _ Xi)).trans Xi;replace Xj:=(HB.out.cell (World.block_lt_of_cell? w _ Xj)).trans Xj;replace Xk:=(HB.out.cell (World.block_lt_of_cell? w _ Xk)).trans Xk;replace Xl:=(HB.out.cell (World.block_lt_of_cell? w _ Xl)).trans Xl;replace Xm:=(HB.out.cell (World.block_lt_of_cell? w _ Xm)).trans Xm;have qpN:=Q0.mk qbR;have qpD:=Q0.mk qb5;clear qbR qb5;have qpO:=Q0.mk qbS;have qpE:=Q0.mk qb6;clear qbS qb6;have qpP:=Q0.mk qbT;have qpF:=Q0.mk qb7;clear qbT qb7;replace qj7:=eq_true qj7;replace qkp:=eq_true qkp
             go_wp2
             repeat (go_quiet (fail);try go_wp2)
             go_roundg k4
             case measure=>have:=HJ5.out;have:=XE.out;have:=qvy.out;have:=HK4.out;omega
             case rel=>exact ⟨(wrap64 (OG+1)),(by first|rfl|(simp;done)|(simp [*];done)),H',⟨by have:=HJ5.out;have:=XE.out;have:=qvy.out;have:=HK4.out;omega⟩,⟨by (with_reducible repeat (first|apply Kd.V_alloc|apply Kd.V_drewN|apply Kd.V_drew));exact HO_15.out⟩,⟨by (with_reducible repeat (first|refine Q4 ?_ _|refine Q7 ?_|refine Q2 ?_ _));exact Qz.out⟩,⟨by (with_reducible repeat (first|refine Q4 ?_ _|refine Q7 ?_|refine Q2 ?_ _));exact Yg.out⟩,⟨by repeat (first|(with_reducible first|exact HB.out|apply Q3|apply Q1|apply Q6|refine Q5 ?_ YQ.out|refine Q5 ?_ Z0.out)|exact HB.out)⟩⟩
            rw [if_neg c61] at H
            exact absurd H (by simp)
           rw [if_neg c60] at H
           exact absurd H (by simp)
          rw [if_neg c59] at H
          exact absurd H (by simp)
         rw [if_neg c58] at H;have c58b0:decide (OG<(Wm.length:Int))=false:=decide_eq_false c58;clear c58
         by_cases c69:Jb=10000
         ·
          rw [if_pos c69] at H;have c69b0:(Jb==10000)=true:=beq_iff_eq.mpr c69;have c69b1:(Jb != 10000)=false:=bne_eq_false_iff_eq.mpr c69;clear c69;replace H:=Option.bind_eq_some_iff.mp H;obtain ⟨qi4,qvg,H⟩:=H;replace H:(some qi4)=some r:=H;have A70:=Q0.mk qvg;clear qvg;obtain rfl:=Option.some.inj H;obtain ⟨qIB,qIH,qFn⟩:=Kd.V_slice HO_15.out;subst qFn
          go_wp2_with (first|(go_at_call 21;(with_reducible refine (QV.calls  qi4 _ A70.out).mono ?_);rintro e w72 ⟨rfl,hb⟩;have n0_:=Q0.mk (Kd.V_below (by (with_reducible repeat (first|apply Kd.V_alloc|apply Kd.V_drewN|apply Kd.V_drew));exact HO_15.out) hb);have n1_:=Q0.mk (Qf (g:=Yn) (by (with_reducible repeat (first|refine Q4 ?_ _|refine Q7 ?_|refine Q2 ?_ _));exact Qz.out) hb);have n2_:=Q0.mk (Qf (g:=Ze) (by (with_reducible repeat (first|refine Q4 ?_ _|refine Q7 ?_|refine Q2 ?_ _));exact Yg.out) hb);have n3_:=Q0.mk (Qk (by repeat (first|(with_reducible first|exact HB.out|apply Q3|apply Q1|apply Q6|refine Q5 ?_ YQ.out|refine Q5 ?_ Z0.out)|exact HB.out)) hb);clear HO_15 Qz Yg HB;have HO_15:=n0_;have Qz:=n1_;have Yg:=n2_;have HB:=n3_;clear n0_ n1_ n2_ n3_;(try clear hb);(try clear hb2);(try clear hk);(try clear hi)))
          repeat (go_quiet (first|(go_at_call 21;(with_reducible refine (QV.calls  qi4 _ A70.out).mono ?_);rintro e w72 ⟨rfl,hb⟩;have n0_:=Q0.mk (Kd.V_below (by (with_reducible repeat (first|apply Kd.V_alloc|apply Kd.V_drewN|apply Kd.V_drew));exact HO_15.out) hb);have n1_:=Q0.mk (Qf (g:=Yn) (by (with_reducible repeat (first|refine Q4 ?_ _|refine Q7 ?_|refine Q2 ?_ _));exact Qz.out) hb);have n2_:=Q0.mk (Qf (g:=Ze) (by (with_reducible repeat (first|refine Q4 ?_ _|refine Q7 ?_|refine Q2 ?_ _));exact Yg.out) hb);have n3_:=Q0.mk (Qk (by repeat (first|(with_reducible first|exact HB.out|apply Q3|apply Q1|apply Q6|refine Q5 ?_ YQ.out|refine Q5 ?_ Z0.out)|exact HB.out)) hb);clear HO_15 Qz Yg HB;have HO_15:=n0_;have Qz:=n1_;have Yg:=n2_;have HB:=n3_;clear n0_ n1_ n2_ n3_;(try clear hb);(try clear hb2);(try clear hk);(try clear hi)));try go_wp2_with (first|(go_at_call 21;(with_reducible refine (QV.calls  qi4 _ A70.out).mono ?_);rintro e w72 ⟨rfl,hb⟩;have n0_:=Q0.mk (Kd.V_below (by (with_reducible repeat (first|apply Kd.V_alloc|apply Kd.V_drewN|apply Kd.V_drew));exact HO_15.out) hb);have n1_:=Q0.mk (Qf (g:=Yn) (by (with_reducible repeat (first|refine Q4 ?_ _|refine Q7 ?_|refine Q2 ?_ _));exact Qz.out) hb);have n2_:=Q0.mk (Qf (g:=Ze) (by (with_reducible repeat (first|refine Q4 ?_ _|refine Q7 ?_|refine Q2 ?_ _));exact Yg.out) hb);have n3_:=Q0.mk (Qk (by repeat (first|(with_reducible first|exact HB.out|apply Q3|apply Q1|apply Q6|refine Q5 ?_ YQ.out|refine Q5 ?_ Z0.out)|exact HB.out)) hb);clear HO_15 Qz Yg HB;have HO_15:=n0_;have Qz:=n1_;have Yg:=n2_;have HB:=n3_;clear n0_ n1_ n2_ n3_;(try clear hb);(try clear hb2);(try clear hk);(try clear hi))))
          go_ret
          exact ⟨by first|rfl|(simp [Qx,Qy]<;>rfl)|(simp [*,Qx,Qy]<;>rfl),by repeat (first|(with_reducible first|exact HB.out|apply Q3|apply Q1|apply Q6|refine Q5 ?_ YQ.out|refine Q5 ?_ Z0.out)|exact HB.out)⟩
         rw [if_neg c69] at H;have c69b0:(Jb==10000)=false:=beq_eq_false_iff_ne.mpr c69;have c69b1:(Jb != 10000)=true:=bne_iff_ne.mpr c69;replace H:=Option.bind_eq_some_iff.mp H;obtain ⟨⟨qnl,qnm,qnn,XC⟩,qvh,H⟩:=H;replace H:(if XC=0 then ((QV.f).bind fun qaQ=>(some qaQ)) else (some false))=some r:=H;have A73:=Q0.mk qvh;clear qvh
         by_cases c74:XC=0
         ·
          rw [if_pos c74] at H;have c74b0:(XC==0)=true:=beq_iff_eq.mpr c74;have c74b1:(XC != 0)=false:=bne_eq_false_iff_eq.mpr c74;clear c74;replace H:=Option.bind_eq_some_iff.mp H;obtain ⟨qaQ,qvi,H⟩:=H;replace H:(some qaQ)=some r:=H;have A75:=Q0.mk qvi;clear qvi;obtain rfl:=Option.some.inj H;obtain ⟨qIC,qII,qFo⟩:=Kd.V_slice HO_15.out;subst qFo;have qHz:=Gl.out;have qIh:=Gm.out;have qqC:wr.cell? ⟨Yn,0,none⟩=some (.slice QC Qa.length Qs):=(Q8 Qz.out 0).trans rfl;have qqD:wr.cell? ⟨Yn,1,none⟩=some (.slice QA Qe.length Qt):=(Q8 Qz.out 1).trans rfl;have qz6:wr.cell? ⟨Yn,2,none⟩=some (.slice QE Qb.length Qu):=(Q8 Qz.out 2).trans rfl;have qrg:=Q9 Qz.out 0;have qrh:=Q9 Qz.out 1;have qCd:=Q9 Qz.out 2
          go_wp2_with (first|(go_at_call 32;(with_reducible refine (QO.calls k4 _ _ Qa _ _ Qe _ _ Qb (wrap64 (Jb+1)) qnl qnm qnn XC _ ?side1 ?side2 ?side3 ?side4 ?side5 ?side6 A73.out).mono ?_);(case side1=>repeat (first|exact (Kd.C_below Z5.out HB.out)|(with_reducible refine Kd.C_alloc ?_ _)|(with_reducible refine Kd.C_drewN ?_ _)|(with_reducible refine Kd.C_drew ?_)));(case side2=>exact ZD.out);(case side3=>repeat (first|exact (Kd.C_below Zj.out HB.out)|(with_reducible refine Kd.C_alloc ?_ _)|(with_reducible refine Kd.C_drewN ?_ _)|(with_reducible refine Kd.C_drew ?_)));(case side4=>exact ZE.out);(case side5=>repeat (first|exact (Kd.C_below Z6.out HB.out)|(with_reducible refine Kd.C_alloc ?_ _)|(with_reducible refine Kd.C_drewN ?_ _)|(with_reducible refine Kd.C_drew ?_)));(case side6=>exact ZF.out);rintro e w79 ⟨rfl,hb⟩;have n0_:=Q0.mk (Kd.V_below (by (with_reducible repeat (first|apply Kd.V_alloc|apply Kd.V_drewN|apply Kd.V_drew));exact HO_15.out) hb);have n1_:=Q0.mk (Qf (g:=Yn) (by (with_reducible repeat (first|refine Q4 ?_ _|refine Q7 ?_|refine Q2 ?_ _));exact Qz.out) hb);have n2_:=Q0.mk (Qf (g:=Ze) (by (with_reducible repeat (first|refine Q4 ?_ _|refine Q7 ?_|refine Q2 ?_ _));exact Yg.out) hb);have n3_:=Q0.mk (Qk (by repeat (first|(with_reducible first|exact HB.out|apply Q3|apply Q1|apply Q6|refine Q5 ?_ YQ.out|refine Q5 ?_ Z0.out)|exact HB.out)) hb);clear HO_15 Qz Yg HB;have HO_15:=n0_;have Qz:=n1_;have Yg:=n2_;have HB:=n3_;clear n0_ n1_ n2_ n3_;(try clear hb);(try clear hb2);(try clear hk);(try clear hi))|(go_at_call 21;(with_reducible refine (QV.calls  qaQ _ A75.out).mono ?_);rintro e w80 ⟨rfl,hb⟩;have n0_:=Q0.mk (Kd.V_below (by (with_reducible repeat (first|apply Kd.V_alloc|apply Kd.V_drewN|apply Kd.V_drew));exact HO_15.out) hb);have n1_:=Q0.mk (Qf (g:=Yn) (by (with_reducible repeat (first|refine Q4 ?_ _|refine Q7 ?_|refine Q2 ?_ _));exact Qz.out) hb);have n2_:=Q0.mk (Qf (g:=Ze) (by (with_reducible repeat (first|refine Q4 ?_ _|refine Q7 ?_|refine Q2 ?_ _));exact Yg.out) hb);have n3_:=Q0.mk (Qk (by repeat (first|(with_reducible first|exact HB.out|apply Q3|apply Q1|apply Q6|refine Q5 ?_ YQ.out|refine Q5 ?_ Z0.out)|exact HB.out)) hb);clear HO_15 Qz Yg HB;have HO_15:=n0_;have Qz:=n1_;have Yg:=n2_;have HB:=n3_;clear n0_ n1_ n2_ n3_;(try clear hb);(try clear hb2);(try clear hk);(try clear hi)))
          repeat (go_quiet (first|(go_at_call 32;(with_reducible refine (QO.calls k4 _ _ Qa _ _ Qe _ _ Qb (wrap64 (Jb+1)) qnl qnm qnn XC _ ?side1 ?side2 ?side3 ?side4 ?side5 ?side6 A73.out).mono ?_);(case side1=>repeat (first|exact (Kd.C_below Z5.out HB.out)|(with_reducible refine Kd.C_alloc ?_ _)|(with_reducible refine Kd.C_drewN ?_ _)|(with_reducible refine Kd.C_drew ?_)));(case side2=>exact ZD.out);(case side3=>repeat (first|exact (Kd.C_below Zj.out HB.out)|(with_reducible refine Kd.C_alloc ?_ _)|(with_reducible refine Kd.C_drewN ?_ _)|(with_reducible refine Kd.C_drew ?_)));(case side4=>exact ZE.out);(case side5=>repeat (first|exact (Kd.C_below Z6.out HB.out)|(with_reducible refine Kd.C_alloc ?_ _)|(with_reducible refine Kd.C_drewN ?_ _)|(with_reducible refine Kd.C_drew ?_)));(case side6=>exact ZF.out);rintro e w79 ⟨rfl,hb⟩;have n0_:=Q0.mk (Kd.V_below (by (with_reducible repeat (first|apply Kd.V_alloc|apply Kd.V_drewN|apply Kd.V_drew));exact HO_15.out) hb);have n1_:=Q0.mk (Qf (g:=Yn) (by (with_reducible repeat (first|refine Q4 ?_ _|refine Q7 ?_|refine Q2 ?_ _));exact Qz.out) hb);have n2_:=Q0.mk (Qf (g:=Ze) (by (with_reducible repeat (first|refine Q4 ?_ _|refine Q7 ?_|refine Q2 ?_ _));exact Yg.out) hb);have n3_:=Q0.mk (Qk (by repeat (first|(with_reducible first|exact HB.out|apply Q3|apply Q1|apply Q6|refine Q5 ?_ YQ.out|refine Q5 ?_ Z0.out)|exact HB.out)) hb);clear HO_15 Qz Yg HB;have HO_15:=n0_;have Qz:=n1_;have Yg:=n2_;have HB:=n3_;clear n0_ n1_ n2_ n3_;(try clear hb);(try clear hb2);(try clear hk);(try clear hi))|(go_at_call 21;(with_reducible refine (QV.calls  qaQ _ A75.out).mono ?_);rintro e w80 ⟨rfl,hb⟩;have n0_:=Q0.mk (Kd.V_below (by (with_reducible repeat (first|apply Kd.V_alloc|apply Kd.V_drewN|apply Kd.V_drew));exact HO_15.out) hb);have n1_:=Q0.mk (Qf (g:=Yn) (by (with_reducible repeat (first|refine Q4 ?_ _|refine Q7 ?_|refine Q2 ?_ _));exact Qz.out) hb);have n2_:=Q0.mk (Qf (g:=Ze) (by (with_reducible repeat (first|refine Q4 ?_ _|refine Q7 ?_|refine Q2 ?_ _));exact Yg.out) hb);have n3_:=Q0.mk (Qk (by repeat (first|(with_reducible first|exact HB.out|apply Q3|apply Q1|apply Q6|refine Q5 ?_ YQ.out|refine Q5 ?_ Z0.out)|exact HB.out)) hb);clear HO_15 Qz Yg HB;have HO_15:=n0_;have Qz:=n1_;have Yg:=n2_;have HB:=n3_;clear n0_ n1_ n2_ n3_;(try clear hb);(try clear hb2);(try clear hk);(try clear hi)));try go_wp2_with (first|(go_at_call 32;(with_reducible refine (QO.calls k4 _ _ Qa _ _ Qe _ _ Qb (wrap64 (Jb+1)) qnl qnm qnn XC _ ?side1 ?side2 ?side3 ?side4 ?side5 ?side6 A73.out).mono ?_);(case side1=>repeat (first|exact (Kd.C_below Z5.out HB.out)|(with_reducible refine Kd.C_alloc ?_ _)|(with_reducible refine Kd.C_drewN ?_ _)|(with_reducible refine Kd.C_drew ?_)));(case side2=>exact ZD.out);(case side3=>repeat (first|exact (Kd.C_below Zj.out HB.out)|(with_reducible refine Kd.C_alloc ?_ _)|(with_reducible refine Kd.C_drewN ?_ _)|(with_reducible refine Kd.C_drew ?_)));(case side4=>exact ZE.out);(case side5=>repeat (first|exact (Kd.C_below Z6.out HB.out)|(with_reducible refine Kd.C_alloc ?_ _)|(with_reducible refine Kd.C_drewN ?_ _)|(with_reducible refine Kd.C_drew ?_)));(case side6=>exact ZF.out);rintro e w79 ⟨rfl,hb⟩;have n0_:=Q0.mk (Kd.V_below (by (with_reducible repeat (first|apply Kd.V_alloc|apply Kd.V_drewN|apply Kd.V_drew));exact HO_15.out) hb);have n1_:=Q0.mk (Qf (g:=Yn) (by (with_reducible repeat (first|refine Q4 ?_ _|refine Q7 ?_|refine Q2 ?_ _));exact Qz.out) hb);have n2_:=Q0.mk (Qf (g:=Ze) (by (with_reducible repeat (first|refine Q4 ?_ _|refine Q7 ?_|refine Q2 ?_ _));exact Yg.out) hb);have n3_:=Q0.mk (Qk (by repeat (first|(with_reducible first|exact HB.out|apply Q3|apply Q1|apply Q6|refine Q5 ?_ YQ.out|refine Q5 ?_ Z0.out)|exact HB.out)) hb);clear HO_15 Qz Yg HB;have HO_15:=n0_;have Qz:=n1_;have Yg:=n2_;have HB:=n3_;clear n0_ n1_ n2_ n3_;(try clear hb);(try clear hb2);(try clear hk);(try clear hi))|(go_at_call 21;(with_reducible refine (QV.calls  qaQ _ A75.out).mono ?_);rintro e w80 ⟨rfl,hb⟩;have n0_:=Q0.mk (Kd.V_below (by (with_reducible repeat (first|apply Kd.V_alloc|apply Kd.V_drewN|apply Kd.V_drew));exact HO_15.out) hb);have n1_:=Q0.mk (Qf (g:=Yn) (by (with_reducible repeat (first|refine Q4 ?_ _|refine Q7 ?_|refine Q2 ?_ _));exact Qz.out) hb);have n2_:=Q0.mk (Qf (g:=Ze) (by (with_reducible repeat (first|refine Q4 ?_ _|refine Q7 ?_|refine Q2 ?_ _));exact Yg.out) hb);have n3_:=Q0.mk (Qk (by repeat (first|(with_reducible first|exact HB.out|apply Q3|apply Q1|apply Q6|refine Q5 ?_ YQ.out|refine Q5 ?_ Z0.out)|exact HB.out)) hb);clear HO_15 Qz Yg HB;have HO_15:=n0_;have Qz:=n1_;have Yg:=n2_;have HB:=n3_;clear n0_ n1_ n2_ n3_;(try clear hb);(try clear hb2);(try clear hk);(try clear hi))))
          go_ret
          exact ⟨by first|rfl|(simp [Qx,Qy]<;>rfl)|(simp [*,Qx,Qy]<;>rfl),by repeat (first|(with_reducible first|exact HB.out|apply Q3|apply Q1|apply Q6|refine Q5 ?_ YQ.out|refine Q5 ?_ Z0.out)|exact HB.out)⟩
         rw [if_neg c74] at H;have c74b0:(XC==0)=false:=beq_eq_false_iff_ne.mpr c74;have c74b1:(XC != 0)=true:=bne_iff_ne.mpr c74;obtain rfl:=Option.some.inj H;obtain ⟨qID,qIJ,qFp⟩:=Kd.V_slice HO_15.out;subst qFp;have qHD:=Gl.out;have qIl:=Gm.out;have qAa:wr.cell? ⟨Yn,0,none⟩=some (.slice QC Qa.length Qs):=(Q8 Qz.out 0).trans rfl;have qAb:wr.cell? ⟨Yn,1,none⟩=some (.slice QA Qe.length Qt):=(Q8 Qz.out 1).trans rfl;have qAc:wr.cell? ⟨Yn,2,none⟩=some (.slice QE Qb.length Qu):=(Q8 Qz.out 2).trans rfl;have qCh:=Q9 Qz.out 0;have qCi:=Q9 Qz.out 1;have qCj:=Q9 Qz.out 2
         go_wp2_with (first|(go_at_call 32;(with_reducible refine (QO.calls k4 _ _ Qa _ _ Qe _ _ Qb (wrap64 (Jb+1)) qnl qnm qnn XC _ ?side1 ?side2 ?side3 ?side4 ?side5 ?side6 A73.out).mono ?_);(case side1=>repeat (first|exact (Kd.C_below Z5.out HB.out)|(with_reducible refine Kd.C_alloc ?_ _)|(with_reducible refine Kd.C_drewN ?_ _)|(with_reducible refine Kd.C_drew ?_)));(case side2=>exact ZD.out);(case side3=>repeat (first|exact (Kd.C_below Zj.out HB.out)|(with_reducible refine Kd.C_alloc ?_ _)|(with_reducible refine Kd.C_drewN ?_ _)|(with_reducible refine Kd.C_drew ?_)));(case side4=>exact ZE.out);(case side5=>repeat (first|exact (Kd.C_below Z6.out HB.out)|(with_reducible refine Kd.C_alloc ?_ _)|(with_reducible refine Kd.C_drewN ?_ _)|(with_reducible refine Kd.C_drew ?_)));(case side6=>exact ZF.out);rintro e w84 ⟨rfl,hb⟩;have n0_:=Q0.mk (Kd.V_below (by (with_reducible repeat (first|apply Kd.V_alloc|apply Kd.V_drewN|apply Kd.V_drew));exact HO_15.out) hb);have n1_:=Q0.mk (Qf (g:=Yn) (by (with_reducible repeat (first|refine Q4 ?_ _|refine Q7 ?_|refine Q2 ?_ _));exact Qz.out) hb);have n2_:=Q0.mk (Qf (g:=Ze) (by (with_reducible repeat (first|refine Q4 ?_ _|refine Q7 ?_|refine Q2 ?_ _));exact Yg.out) hb);have n3_:=Q0.mk (Qk (by repeat (first|(with_reducible first|exact HB.out|apply Q3|apply Q1|apply Q6|refine Q5 ?_ YQ.out|refine Q5 ?_ Z0.out)|exact HB.out)) hb);clear HO_15 Qz Yg HB;have HO_15:=n0_;have Qz:=n1_;have Yg:=n2_;have HB:=n3_;clear n0_ n1_ n2_ n3_;(try clear hb);(try clear hb2);(try clear hk);(try clear hi)))
         repeat (go_quiet (first|(go_at_call 32;(with_reducible refine (QO.calls k4 _ _ Qa _ _ Qe _ _ Qb (wrap64 (Jb+1)) qnl qnm qnn XC _ ?side1 ?side2 ?side3 ?side4 ?side5 ?side6 A73.out).mono ?_);(case side1=>repeat (first|exact (Kd.C_below Z5.out HB.out)|(with_reducible refine Kd.C_alloc ?_ _)|(with_reducible refine Kd.C_drewN ?_ _)|(with_reducible refine Kd.C_drew ?_)));(case side2=>exact ZD.out);(case side3=>repeat (first|exact (Kd.C_below Zj.out HB.out)|(with_reducible refine Kd.C_alloc ?_ _)|(with_reducible refine Kd.C_drewN ?_ _)|(with_reducible refine Kd.C_drew ?_)));(case side4=>exact ZE.out);(case side5=>repeat (first|exact (Kd.C_below Z6.out HB.out)|(with_reducible refine Kd.C_alloc ?_ _)|(with_reducible refine Kd.C_drewN ?_ _)|(with_reducible refine Kd.C_drew ?_)));(case side6=>exact ZF.out);rintro e w84 ⟨rfl,hb⟩;have n0_:=Q0.mk (Kd.V_below (by (with_reducible repeat (first|apply Kd.V_alloc|apply Kd.V_drewN|apply Kd.V_drew));exact HO_15.out) hb);have n1_:=Q0.mk (Qf (g:=Yn) (by (with_reducible repeat (first|refine Q4 ?_ _|refine Q7 ?_|refine Q2 ?_ _));exact Qz.out) hb);have n2_:=Q0.mk (Qf (g:=Ze) (by (with_reducible repeat (first|refine Q4 ?_ _|refine Q7 ?_|refine Q2 ?_ _));exact Yg.out) hb);have n3_:=Q0.mk (Qk (by repeat (first|(with_reducible first|exact HB.out|apply Q3|apply Q1|apply Q6|refine Q5 ?_ YQ.out|refine Q5 ?_ Z0.out)|exact HB.out)) hb);clear HO_15 Qz Yg HB;have HO_15:=n0_;have Qz:=n1_;have Yg:=n2_;have HB:=n3_;clear n0_ n1_ n2_ n3_;(try clear hb);(try clear hb2);(try clear hk);(try clear hi)));try go_wp2_with (first|(go_at_call 32;(with_reducible refine (QO.calls k4 _ _ Qa _ _ Qe _ _ Qb (wrap64 (Jb+1)) qnl qnm qnn XC _ ?side1 ?side2 ?side3 ?side4 ?side5 ?side6 A73.out).mono ?_);(case side1=>repeat (first|exact (Kd.C_below Z5.out HB.out)|(with_reducible refine Kd.C_alloc ?_ _)|(with_reducible refine Kd.C_drewN ?_ _)|(with_reducible refine Kd.C_drew ?_)));(case side2=>exact ZD.out);(case side3=>repeat (first|exact (Kd.C_below Zj.out HB.out)|(with_reducible refine Kd.C_alloc ?_ _)|(with_reducible refine Kd.C_drewN ?_ _)|(with_reducible refine Kd.C_drew ?_)));(case side4=>exact ZE.out);(case side5=>repeat (first|exact (Kd.C_below Z6.out HB.out)|(with_reducible refine Kd.C_alloc ?_ _)|(with_reducible refine Kd.C_drewN ?_ _)|(with_reducible refine Kd.C_drew ?_)));(case side6=>exact ZF.out);rintro e w84 ⟨rfl,hb⟩;have n0_:=Q0.mk (Kd.V_below (by (with_reducible repeat (first|apply Kd.V_alloc|apply Kd.V_drewN|apply Kd.V_drew));exact HO_15.out) hb);have n1_:=Q0.mk (Qf (g:=Yn) (by (with_reducible repeat (first|refine Q4 ?_ _|refine Q7 ?_|refine Q2 ?_ _));exact Qz.out) hb);have n2_:=Q0.mk (Qf (g:=Ze) (by (with_reducible repeat (first|refine Q4 ?_ _|refine Q7 ?_|refine Q2 ?_ _));exact Yg.out) hb);have n3_:=Q0.mk (Qk (by repeat (first|(with_reducible first|exact HB.out|apply Q3|apply Q1|apply Q6|refine Q5 ?_ YQ.out|refine Q5 ?_ Z0.out)|exact HB.out)) hb);clear HO_15 Qz Yg HB;have HO_15:=n0_;have Qz:=n1_;have Yg:=n2_;have HB:=n3_;clear n0_ n1_ n2_ n3_;(try clear hb);(try clear hb2);(try clear hk);(try clear hi))))
         go_ret
         exact ⟨by first|rfl|(simp [Qx,Qy]<;>rfl)|(simp [*,Qx,Qy]<;>rfl),by repeat (first|(with_reducible first|exact HB.out|apply Q3|apply Q1|apply Q6|refine Q5 ?_ YQ.out|refine Q5 ?_ Z0.out)|exact HB.out)⟩
end
section
attribute [local go_sem] Ys Yu YG YH Yj Yk Yt Yv
end
section
attribute [local go_sem] Ys Yu YG YH Yj Yk Yt Yv
end
section
attribute [local go_sem] Ys Yu YG YH Yj Yk Yt Yv
end
section
attribute [local go_sem] Ys Yu YG YH Yj Yk Yt Yv
end
section
attribute [local go_sem] Ys Yu YG YH Yj Yk Yt Yv
end
section
attribute [local go_sem] Ys Yu YG YH Yj Yk Yt Yv
end
section
attribute [local go_sem] Ys Yu YG YH Yj Yk Yt Yv
end
section
attribute [local go_sem] Ys Yu YG YH Yj Yk Yt Yv
end
end Go.Proofs.Ytmhomdohhihlcaa.P
namespace Go.Proofs.Ytmhomdohhihlcaa.P
open Go.RowKit Go.ChangeShapes Go.WideShapes Go.Proofs.YtmhomdohhihlcaaW.PrintWords Go.Proofs.YtmhomdohhihlcaaW.PrintLast Go.Proofs.YtmhomdohhihlcaaW.PrintMore
def WI {α:Type} (d:Kd α) (t:TypeId) (p:α→Prop):Prop:=∀ (H:Type) (enc:TypeId × Value→H) (w:World) (fuel:Nat) (cs:List Value) (x:DataW H × List MemPlace),
 DataW.trod enc Try.prog w 0 (fun _=>true) true fuel t cs=some x → ∃ a,d.K w a cs∧p a
def Wf (n:Int):Prop:=(Lit.int .i64 n).wf=true
theorem qm3:WI (Kd.int .i64) 3 Wf:=fun H enc w fuel cs x h=>by
 obtain ⟨n,rfl,_,hw⟩:=DataW.trod_int Try.underlying3 h
 exact ⟨n,rfl,hw⟩
theorem W8 {α:Type} {d:Kd α} {e e' t:TypeId} {p:α→Prop} (h:WI d e p) (ht:Try.prog.underlying t=some (.slice e)) (hc:Try.prog.cellsOf e=d.sz):WI (Kd.slice e' d) t (fun xs => ∀ x∈xs,p x):=fun H enc w fuel cs x hf=>by
 rcases Deep.open_slice ht hf with ⟨rfl,_⟩|⟨a,len,cap,m,n,D,Pl,rfl,_,hl,hm,hmm,_,hx⟩
 ·
  exact ⟨[],⟨none,0,rfl,Nat.le_refl _,Kd.C_nil d w⟩,fun x hx=>by simp at hx⟩
 ·
  have each:∀ i,i<len → ∃ z:α,(∃ c,c.length=d.sz∧d.K w z c ∧ ∀ j u,c[j]? = some u→w.cell? (a.add (i*d.sz+j))=some u)∧p z:=fun i hi=>by
   obtain ⟨cs',h1,h2⟩:=hx i (by simp only [if_true] at hmm;omega)
   obtain ⟨z,hz,hp⟩:=h H enc w n cs' _ h2
   obtain ⟨_,hcl,hat⟩:=World.cells?_some h1
   refine ⟨z,⟨cs',d.K_len hz,hz,fun j u hu => ?_⟩,hp⟩
   have hj:j<cs'.length:=(List.getElem?_eq_some_iff.1 hu).1
   rw [d.K_len hz] at hj
   have hj':j<Try.prog.cellsOf e:=by rw [hc];exact hj
   have h3:=hat j hj'
   rw [Deep.add_add,hc] at h3
   rw [h3]
   exact hu
  by_cases h0:len=0
  ·
   subst h0
   exact ⟨[],⟨some a,cap,rfl,by simp,⟨rfl,by simp,fun hh=>by simp at hh⟩⟩,fun x hx=>by simp at hx⟩
  ·
   obtain ⟨z0,_⟩:=each 0 (by omega)
   have inst:Inhabited α:=⟨z0⟩
   obtain ⟨f,hfz⟩:=Deep.choose_lt each
   have hmx:cap≤9223372036854775807:=by unfold maxLen at hm;omega
   refine ⟨(List.range len).map f,⟨some a,cap,by simp,by simpa using hl,⟨rfl,by simp;omega,fun _=>⟨a,rfl,fun j q hj => ?_⟩⟩⟩,fun x hx => ?_⟩
   ·
    have hj2:j<len:=by have:=(List.getElem?_eq_some_iff.1 hj).1;simpa using this
    rw [List.getElem?_map,List.getElem?_range hj2] at hj
    injection hj with hj
    subst hj;obtain ⟨c,c1,c2,c3⟩:=(hfz j hj2).1
    exact ⟨c,c1,c2,c3⟩
   ·
    obtain ⟨i,hi,rfl⟩:=List.mem_map.1 hx
    exact (hfz i (List.mem_range.1 hi)).2
theorem c3:Try.prog.cellsOf 3=1:=by kernel_rfl
theorem c25:Try.prog.cellsOf 25=2:=by kernel_rfl
theorem c37:Try.prog.cellsOf 37=1:=by kernel_rfl
theorem c32:Try.prog.cellsOf 32=1:=by kernel_rfl
theorem c63:Try.prog.cellsOf 63=1:=by kernel_rfl
theorem c44:Try.prog.cellsOf 44=1:=by kernel_rfl
theorem c45:Try.prog.cellsOf 45=1:=by kernel_rfl
theorem c39:Try.prog.cellsOf 39=5:=by kernel_rfl
theorem c47:Try.prog.cellsOf 47=3:=by kernel_rfl
theorem c23:Try.prog.cellsOf 23=2:=by kernel_rfl
theorem qyd {α:Type} {l:List α} (h:l.length=2):∃ a b,l=[a,b]:=by
 match l,h with
 | [a,b],_=>exact ⟨a,b,rfl⟩
theorem qF1 {α:Type} {l:List α} (h:l.length=3):∃ a b c,l=[a,b,c]:=by
 match l,h with
 | [a,b,c],_=>exact ⟨a,b,c,rfl⟩
theorem qF2 {α:Type} {l:List α} (h:l.length=5):∃ a b c d e,l=[a,b,c,d,e]:=by
 match l,h with
 | [a,b,c,d,e],_=>exact ⟨a,b,c,d,e,rfl⟩
theorem UA {α:Type} {l:List α} {i:Nat} {o:Option α} (hi:i<l.length) (h:o=l[i]?):∃ y,o=some y:=⟨l[i],by rw [h,List.getElem?_eq_getElem hi]⟩
def WL (l:List Int):Prop:=∀ x∈l,Wf x
def W39 (s:S39):Prop:=WL s.f0∧WL s.f1∧WL s.f2∧Wf s.f3∧Wf s.f4
theorem OU:WI (Kd.slice 3 (Kd.int .i64)) 37 WL:=W8 qm3 Try.underlying37 c3
theorem qo7:WI k39 39 W39:=fun H enc w fuel cs x h=>by
 obtain ⟨xs,n,_,_,hl,hxl,hf⟩:=DataW.trod_struct Try.underlying39 h
 rw [c39] at hl
 obtain ⟨a,b,c,d,e,rfl⟩:=qF2 hl
 have h0:DataW.trod enc Try.prog w 0 (fun _=>true) true n 37 (([a,b,c,d,e].drop 0).take (Try.prog.cellsOf 37))=xs[0]?:=hf 0 _ rfl
 have h1:DataW.trod enc Try.prog w 0 (fun _=>true) true n 37 (([a,b,c,d,e].drop 1).take (Try.prog.cellsOf 37))=xs[1]?:=hf 1 _ rfl
 have h2:DataW.trod enc Try.prog w 0 (fun _=>true) true n 37 (([a,b,c,d,e].drop 2).take (Try.prog.cellsOf 37))=xs[2]?:=hf 2 _ rfl
 have h3:DataW.trod enc Try.prog w 0 (fun _=>true) true n 3 (([a,b,c,d,e].drop 3).take (Try.prog.cellsOf 3))=xs[3]?:=hf 3 _ rfl
 have h4:DataW.trod enc Try.prog w 0 (fun _=>true) true n 3 (([a,b,c,d,e].drop 4).take (Try.prog.cellsOf 3))=xs[4]?:=hf 4 _ rfl
 rw [c37] at h0 h1 h2
 rw [c3] at h3 h4
 have hx2:xs.length=5:=hxl
 obtain ⟨y0,e0⟩:=UA (by omega) h0
 obtain ⟨y1,e1⟩:=UA (by omega) h1
 obtain ⟨y2,e2⟩:=UA (by omega) h2
 obtain ⟨y3,e3⟩:=UA (by omega) h3
 obtain ⟨y4,e4⟩:=UA (by omega) h4
 obtain ⟨l0,⟨A0,d0,q0,z0,k0⟩,g0⟩:=OU H enc w n _ _ e0
 obtain ⟨l1,⟨A1,d1,q1,z1,k1⟩,g1⟩:=OU H enc w n _ _ e1
 obtain ⟨l2,⟨A2,d2,q2,z2,k2⟩,g2⟩:=OU H enc w n _ _ e2
 obtain ⟨n3,q3,_,g3⟩:=DataW.trod_int Try.underlying3 e3
 obtain ⟨n4,q4,_,g4⟩:=DataW.trod_int Try.underlying3 e4
 replace q0:[a]=[Value.slice A0 l0.length d0]:=q0
 replace q1:[b]=[Value.slice A1 l1.length d1]:=q1
 replace q2:[c]=[Value.slice A2 l2.length d2]:=q2
 replace q3:[d]=[Value.int .i64 n3]:=q3
 replace q4:[e]=[Value.int .i64 n4]:=q4
 injection q0 with q0
 injection q1 with q1
 injection q2 with q2
 injection q3 with q3
 injection q4 with q4
 subst q0 q1 q2 q3 q4
 exact ⟨⟨l0,l1,l2,n3,n4⟩,qoM w ⟨l0,l1,l2,n3,n4⟩ z0 k0 z1 k1 z2 k2,g0,g1,g2,g3,g4⟩
theorem qkq:WI (Kd.slice 37 (Kd.slice 3 (Kd.int .i64))) 63 (fun l => ∀ x∈l,WL x):=W8 OU Try.underlying63 c37
theorem qeW:WI (Kd.slice 63 (Kd.slice 37 (Kd.slice 3 (Kd.int .i64)))) 45 (fun l => ∀ x∈l,∀ y∈x,WL y):=W8 qkq Try.underlying45 c63
theorem qiy:WI (Kd.slice 39 k39) 44 (fun l => ∀ x∈l,W39 x):=W8 qo7 Try.underlying44 c39
section
variable {H:Type} {enc:TypeId × Value→H} {W:World} {d:DataW H} {ps:List MemPlace}
theorem qmw {α:Type} {k:Kd α} {t e':TypeId} {p:List α→Prop} (hr:WI (Kd.slice e' k) t p) {a:Option Addr} {len cap:Nat} (h:DataW.Trod enc Try.prog W 0 (fun _=>true) true t (.slice a len cap) d ps) :
  ∃ l:List α,len=l.length∧Kd.C k W a l.length l∧l.length≤cap∧p l:=by
 obtain ⟨fuel,hf⟩:=h
 obtain ⟨l,⟨A,c,e1,hc,hC⟩,hp⟩:=hr H enc W fuel _ _ hf
 replace e1:[Value.slice a len cap]=[Value.slice A l.length c]:=e1
 injection e1 with e1
 injection e1 with e1 e2 e3
 subst e1 e2 e3
 exact ⟨l,rfl,hC,hc,hp⟩
theorem qn2 {t e:TypeId} {a:Option Addr} {len cap:Nat} {ts:List TypeId} {ds:List (DataW H)} {j:Nat} {B:Nat}
  (hsz:(DataW.weightsEach Try.prog ts ds).all (· ≤ reachBytes)=true) (ht:ts[j]? = some t) (hd:ds[j]? = some d) (hu:Try.prog.underlying t=some (.slice e)) (hB:Try.prog.bytesOf e=B)
  (h:DataW.Trod enc Try.prog W 0 (fun _=>true) true t (.slice a len cap) d ps):len*B≤140737488351232:=by
 obtain ⟨fuel,hf⟩:=h
 rcases Deep.open_slice hu hf with ⟨hcs,_⟩|⟨a',len',cap',m,n,D,Pl,hcs,_,hl,_,hmm,hx,_⟩
 ·
  replace hcs:[Value.slice a len cap]=[Value.slice none 0 0]:=hcs
  injection hcs with hcs
  injection hcs with _ h2 _
  subst h2
  simp
 ·
  replace hcs:[Value.slice a len cap]=[Value.slice (some a') len' cap']:=hcs
  injection hcs with hcs
  injection hcs with _ h2 _
  subst h2
  injection hx with hx _
  rw [hx] at hd
  have z:=sized_slice hsz ht hd hu
  rw [hB] at z
  have hrb:reachBytes=140737488351232:=by decide
  rw [hrb] at z
  simp only [List.length_map,List.length_range] at z
  exact Nat.le_trans (Nat.mul_le_mul_right _ (by omega)) z
theorem qtq {cs:Array Value} (h:DataW.Trod enc Try.prog W 0 (fun _=>true) true 47 (.agg cs) d ps):∃ (A0 A1 A2:Option Addr) (c0 c1 c2:Nat) (l0:List S39) (l1:List Int) (l2:List (List (List Int))),cs=#[.slice A0 l0.length c0,.slice A1 l1.length c1,.slice A2 l2.length c2] ∧
  l0.length≤c0∧Kd.C k39 W A0 l0.length l0∧l1.length≤c1∧Kd.C (Kd.int .i64) W A1 l1.length l1∧l2.length≤c2∧Kd.C (Kd.slice 37 (Kd.slice 3 (Kd.int .i64))) W A2 l2.length l2∧(∀ x∈l0,W39 x)∧WL l1∧(∀ x∈l2,∀ y∈x,WL y):=by
 obtain ⟨fuel,hf⟩:=h
 replace hf:DataW.trod enc Try.prog W 0 (fun _=>true) true fuel 47 cs.toList=some (d,ps):=hf
 obtain ⟨xs,n,_,_,hl,hxl,hff⟩:=DataW.trod_struct Try.underlying47 hf
 rw [c47] at hl
 obtain ⟨a,b,c,hcs⟩:=qF1 hl
 rw [hcs] at hff
 have h0:DataW.trod enc Try.prog W 0 (fun _=>true) true n 44 (([a,b,c].drop 0).take (Try.prog.cellsOf 44))=xs[0]?:=hff 0 _ rfl
 have h1:DataW.trod enc Try.prog W 0 (fun _=>true) true n 37 (([a,b,c].drop 1).take (Try.prog.cellsOf 37))=xs[1]?:=hff 1 _ rfl
 have h2:DataW.trod enc Try.prog W 0 (fun _=>true) true n 45 (([a,b,c].drop 2).take (Try.prog.cellsOf 45))=xs[2]?:=hff 2 _ rfl
 rw [c44] at h0
 rw [c37] at h1
 rw [c45] at h2
 have hx2:xs.length=3:=hxl
 obtain ⟨y0,e0⟩:=UA (by omega) h0
 obtain ⟨y1,e1⟩:=UA (by omega) h1
 obtain ⟨y2,e2⟩:=UA (by omega) h2
 obtain ⟨l0,⟨A0,d0,q0,z0,k0⟩,g0⟩:=qiy H enc W n _ _ e0
 obtain ⟨l1,⟨A1,d1,q1,z1,k1⟩,g1⟩:=OU H enc W n _ _ e1
 obtain ⟨l2,⟨A2,d2,q2,z2,k2⟩,g2⟩:=qeW H enc W n _ _ e2
 replace q0:[a]=[Value.slice A0 l0.length d0]:=q0
 replace q1:[b]=[Value.slice A1 l1.length d1]:=q1
 replace q2:[c]=[Value.slice A2 l2.length d2]:=q2
 injection q0 with q0
 injection q1 with q1
 injection q2 with q2
 subst q0 q1 q2
 exact ⟨A0,A1,A2,d0,d1,d2,l0,l1,l2,Array.toList_inj.1 hcs,z0,k0,z1,k1,z2,k2,g0,g1,g2⟩
theorem qgM {r:Reach} {base:Nat} {t e:TypeId} {n:Nat} {v:Value} (ht:Try.prog.underlying t=some (.array n e)) (h:Value.okWide Try.prog W r base t v):∃ cs,v = .agg cs:=by
 simp only [Value.okWide,ht] at h
 obtain ⟨cs,h1,_⟩:=h
 exact ⟨cs,h1⟩
theorem qtr {n:Nat} {t:TypeId} (ht:Try.prog.underlying t=some (.array n 3)) {fuel:Nat} {l:List Value} {x:DataW H × List MemPlace} (h:DataW.trod enc Try.prog W 0 (fun _=>true) true fuel t l=some x) :
  l.length=Try.prog.cellsOf t ∧ ∀ i v,i<n→l[i]? = some v → ∃ m,v = .int .i64 m∧Wf m:=by
 obtain ⟨xs,m,_,_,hl,hxl,hf⟩:=DataW.trod_array ht h
 refine ⟨hl,fun i v hi hv => ?_⟩
 have h1:=hf i hi
 rw [c3,Nat.mul_one] at h1
 obtain ⟨y,e⟩:=UA (by omega) h1
 obtain ⟨n',q,_,g⟩:=DataW.trod_int Try.underlying3 e
 obtain ⟨hil,hv'⟩:=List.getElem?_eq_some_iff.1 hv
 rw [List.drop_eq_getElem_cons hil,hv'] at q
 injection q with q
 exact ⟨n',q,g⟩
theorem qtp {cs:Array Value} (h:DataW.Trod enc Try.prog W 0 (fun _=>true) true 23 (.agg cs) d ps):∃ a b:Int,cs=#[.int .i64 a,.int .i64 b]∧Wf a∧Wf b:=by
 obtain ⟨fuel,hf⟩:=h
 obtain ⟨hl,hat⟩:=qtr Try.underlying23 (show DataW.trod enc Try.prog W 0 (fun _=>true) true fuel 23 cs.toList=some (d,ps) from hf)
 rw [c23] at hl
 obtain ⟨a,b,e⟩:=qyd hl
 rw [e] at hat
 obtain ⟨m0,rfl,g0⟩:=hat 0 _ (by omega) rfl
 obtain ⟨m1,rfl,g1⟩:=hat 1 _ (by omega) rfl
 exact ⟨m0,m1,Array.toList_inj.1 e,g0,g1⟩
end
end Go.Proofs.Ytmhomdohhihlcaa.P
namespace Go.Proofs.Ytmhomdohhihlcaa.P
open Go.RowKit Go.Proofs.YtmhomdohhihlcaaW.PrintWords Go.Proofs.YtmhomdohhihlcaaW.PrintLast Go.Proofs.YtmhomdohhihlcaaW.PrintMore
section
attribute [local go_sem] Ys Yu YG YH Yj Yk Yt Yv
end
section
attribute [local go_sem] Ys Yu YG YH Yj Yk Yt Yv
end
section
attribute [local go_sem] Ys Yu YG YH Yj Yk Yt Yv
attribute [local go_sem high] qog
end
section
theorem Gf (a b c:Int):Qm.f a b c=some (wi a b c):=by
 unfold Qm.f wi
 by_cases h:b≤a
 ·
  rw [if_pos h];simp [h]
 ·
  rw [if_neg h];simp [h]
theorem qab (a b c:Int):Qr.f a b c=some (wi a b c):=by
 unfold Qr.f wi
 by_cases h:b≤a
 ·
  rw [if_pos h];simp [h]
 ·
  rw [if_neg h];simp [h]
def sp (a b h:Int):Bool:=decide (0≤a∧a≤b∧b≤h)
theorem wr1 (i n:Nat) (h:i<n) (hn:(n:Int)≤9223372036854775807):wrap64 ((i:Int)+1)=((i+1:Nat):Int):=by unfold wrap64;omega
end
section
theorem rdI (l:List Int) (i:Nat) (h:i<l.length):rd l (i:Int)=l[i]:=by simp [rd,List.getD_eq_getElem?_getD,List.getElem?_eq_getElem h]
def vR (l0 l1 l2:List Int) (i:Nat):Bool:=wi (rd l0 i) 0 100000&&wi (rd l1 i) 0 1000&&wi (rd l2 i) 0 100
def aR (l0 l1 l2:List Int):Nat→Nat→Bool
 | 0,_=>true
 | d+1,i=>vR l0 l1 l2 i&&aR l0 l1 l2 d (i+1)
def isR (l0 l1 l2:List Int) (a3 a4:Int):Bool :=
 (wi (l0.length:Int) 1 6&&decide (l1.length=l0.length)&&decide (l2.length=l0.length)&&wi a3 0 100000000&&wi a4 0 ((l0.length:Int)-1))&&aR l0 l1 l2 l0.length 0
theorem qsG {l0 l1 l2:List Int}:∀ (d i:Nat),aR l0 l1 l2 d i=true → ∀ j,i≤j→j<i+d→vR l0 l1 l2 j=true
 | 0,i,_,j,h1,h2=>by omega
 | d+1,i,h,j,h1,h2=>by
  rw [aR,Bool.and_eq_true] at h
  by_cases hj:j=i
  ·
   rw [hj];exact h.1
  ·
   exact qsG d (i+1) h.2 j (by omega) (by omega)
theorem qjJ {l0 l1 l2:List Int} {a3 a4:Int} (h:isR l0 l1 l2 a3 a4=true):okR l0 l1 l2 a4∧wi a3 0 100000000=true ∧ ∀ i,i<l0.length→vR l0 l1 l2 i=true:=by
 unfold isR at h
 simp only [Bool.and_eq_true,decide_eq_true_eq] at h
 obtain ⟨⟨⟨⟨⟨h1,h2⟩,h3⟩,h4⟩,h5⟩,h6⟩:=h
 have g1:=Gh.1 h1
 have g5:=Gh.1 h5
 exact ⟨⟨by omega,by omega,h2,h3,by omega,by omega⟩,h4,fun i hi=>qsG _ _ h6 i (by omega) (by omega)⟩
section
variable (l0 l1 l2:List Int) (a3 a4:Int)
theorem qcv:∀ (d i:Nat) (b:Bool),i+d=l0.length→(b=true→l1.length=l0.length∧l2.length=l0.length∧l0.length≤6)→Ev (fun k=>Qh.l0 k (l0.length:Int) b (i:Int) l0 l1 l2 a3 a4) (b&&aR l0 l1 l2 d i):=by
 intro d
 induction d with
 | zero =>
  intro i b hi hb
  rw [aR,Bool.and_true]
  refine Ev.step (f:=fun k=>Qh.j2 k (l0.length:Int) b (i:Int) false l0 l1 l2 a3 a4) (fun k => ?_) (Ev.step (f:=fun _=>some b) (fun k => ?_) (Ev.now _))
  ·
   simp only [Qh.l0]
   rw [decide_eq_false (by omega:¬ (i:Int)<(l0.length:Int))]
   cases b<;>rfl
  ·
   simp [Qh.j2]
 | succ d ih =>
  intro i b hi hb
  cases b with
  | false =>
   rw [Bool.false_and]
   refine Ev.step (f:=fun k=>Qh.j2 k (l0.length:Int) false (i:Int) false l0 l1 l2 a3 a4) (fun k => ?_) (Ev.step (f:=fun _=>some false) (fun k => ?_) (Ev.now _))
   ·
    simp [Qh.l0]
   ·
    simp [Qh.j2]
  | true =>
   obtain ⟨b1,b2,b3⟩:=hb rfl
   have hlt:i<l0.length:=by omega
   rw [Bool.true_and,aR]
   refine Ev.step (f:=fun k=>Qh.j2 k (l0.length:Int) true (i:Int) true l0 l1 l2 a3 a4) (fun k => ?_) ?_
   ·
    simp only [Qh.l0];rw [decide_eq_true (by omega:(i:Int)<(l0.length:Int))]
    rfl
   ·
    refine Ev.step (f:=fun k=>Qh.l0 k (l0.length:Int) (vR l0 l1 l2 i) ((i+1:Nat):Int) l0 l1 l2 a3 a4) (fun k => ?_) (ih (i+1) _ (by omega) (fun _=>⟨b1,b2,b3⟩));have hw:=wr1 i l0.length hlt (by omega);simp only [Qh.j2,Gf,Option.bind_some,hw];rw [if_pos trivial,if_pos (by omega),if_pos (by omega)];unfold vR
    cases h1:wi (rd l0 i) 0 100000 with
    | false=>simp
    | true =>
     rw [if_pos rfl,if_pos (by omega)]
     cases h2:wi (rd l1 i) 0 1000 with
     | false=>simp
     | true=>rw [if_pos rfl,if_pos (by omega)];simp
theorem qfp:Ev (fun k=>Qh.f k l0 l1 l2 a3 a4) (isR l0 l1 l2 a3 a4):=by
 have H:∀ b:Bool,(b=true→l1.length=l0.length∧l2.length=l0.length∧l0.length≤6)→Ev (fun k=>Qh.j0 k (l0.length:Int) b l0 l1 l2 a3 a4) (b&&aR l0 l1 l2 l0.length 0):=fun b hb =>
  Ev.step (f:=fun k=>Qh.l0 k (l0.length:Int) b ((0:Nat):Int) l0 l1 l2 a3 a4) (fun k=>by simp [Qh.j0]) (qcv l0 l1 l2 a3 a4 l0.length 0 b (by omega) hb)
 have HF:=H false (fun h=>by simp at h)
 unfold isR
 simp only [Qh.f,Gf,Option.bind_some]
 cases h1:wi (l0.length:Int) 1 6 with
 | false=>simpa using HF
 | true =>
  have g1:=Gh.1 h1
  have hw:wrap64 ((l0.length:Int)-1)=(l0.length:Int)-1:=by unfold wrap64;omega
  by_cases h2:l1.length=l0.length
  ·
   by_cases h3:l2.length=l0.length
   ·
    cases h4:wi a3 0 100000000 with
    | false=>simpa [h2,h3] using HF
    | true =>
     simp only [h2,h3,hw,if_true,decide_true,Bool.true_and,Bool.and_true]
     exact H _ (fun _=>⟨h2,h3,by omega⟩)
   ·
    have h3':¬ (l2.length:Int)=(l0.length:Int):=by omega
    simpa [h2,h3,h3'] using HF
  ·
   have h2':¬ (l1.length:Int)=(l0.length:Int):=by omega
   simpa [h2,h2'] using HF
end
def plL (m:Nat) (mesh:Int) (keep spawn tk rc:List Int):Nat→Nat→List Int→List Int→List Int
 | 0,_,_,acc=>acc
 | d+1,i,n,acc=>plL m mesh keep spawn tk rc d (i+1) (Jr m mesh keep spawn n (rd tk i) (rd rc i)).2 (acc++[(Jr m mesh keep spawn n (rd tk i) (rd rc i)).1])
theorem six {l:List Int} (h:l.length=6):[rd l 0,rd l 1,rd l 2,rd l 3,rd l 4,rd l 5]=l:=by
 rcases l with _|⟨a,_|⟨b,_|⟨c,_|⟨d,_|⟨e,_|⟨f,_|⟨g,l⟩⟩⟩⟩⟩⟩⟩<;>simp at h
 rfl
section
variable (l0 l1 l2:List Int) (a3 a4:Int) (ho:okR l0 l1 l2 a4) (tk rc:List Int) (hlen:rc.length=tk.length) (h10:tk.length≤10)
include ho hlen h10
theorem qe3:∀ (d i:Nat) (n acc:List Int),n.length=6→acc.length=i→i+d=tk.length→Ev (fun k=>Qw.l1 k tk rc acc (tk.length:Int) (i:Int) l0 l1 l2 a3 a4 (rd n 0) (rd n 1) (rd n 2) (rd n 3) (rd n 4) (rd n 5)) (plL l0.length a4 l1 l2 tk rc d i n acc,0):=by
 intro d
 induction d with
 | zero =>
  intro i n acc hn ha hi
  refine Ev.step (f:=fun _=>some (acc,0)) (fun k => ?_) (Ev.now _)
  simp only [Qw.l1]
  rw [if_neg (by omega),if_pos (by omega),if_pos (by omega),Int.toNat_natCast,List.take_length]
 | succ d ih =>
  intro i n acc hn ha hi
  have h6:=qay l0.length a4 l1 l2 n (rd tk i) (rd rc i)
  refine Ev.step (f:=fun k=>Qw.l1 k tk rc (acc++[(Jr l0.length a4 l1 l2 n (rd tk i) (rd rc i)).1]) (tk.length:Int) ((i+1:Nat):Int) l0 l1 l2 a3 a4 (rd (Jr l0.length a4 l1 l2 n (rd tk i) (rd rc i)).2 0) (rd (Jr l0.length a4 l1 l2 n (rd tk i) (rd rc i)).2 1) (rd (Jr l0.length a4 l1 l2 n (rd tk i) (rd rc i)).2 2) (rd (Jr l0.length a4 l1 l2 n (rd tk i) (rd rc i)).2 3) (rd (Jr l0.length a4 l1 l2 n (rd tk i) (rd rc i)).2 4) (rd (Jr l0.length a4 l1 l2 n (rd tk i) (rd rc i)).2 5)) (fun k => ?_) (ih (i+1) _ _ h6 (by simp;omega) (by omega))
  have hw:=wr1 i tk.length (by omega) (by omega)
  simp only [Qw.l1,hw,YV.f,six hn]
  rw [if_pos (by omega),if_pos (by omega),if_pos (by omega),if_pos (by omega),if_pos ho,Option.bind_some,if_pos (by omega)]
def tR (tk rc:List Int):Nat→Nat→Bool
 | 0,_=>true
 | d+1,i=>(wi (rd tk i) 0 100000000&&wi (rd rc i) 0 100000)&&tR tk rc d (i+1)
omit ho hlen h10 in
theorem qhS (h6:l0.length≤6):Z2.f l0 l1 l2 a3 a4=some (rd l0 0,rd l0 1,rd l0 2,rd l0 3,rd l0 4,rd l0 5):=by
 unfold Z2.f;rw [if_pos h6]
def plV (l0 l1 l2:List Int) (a4:Int) (tk rc:List Int):List Int:=plL l0.length a4 l1 l2 tk rc tk.length 0 [rd l0 0,rd l0 1,rd l0 2,rd l0 3,rd l0 4,rd l0 5] []
def qcZ (l0 l1 l2:List Int) (a4:Int) (tk rc:List Int) (b:Bool):List Int × Int:=if b=true then (plV l0 l1 l2 a4 tk rc,0) else ([],92)
theorem XS (b:Bool) (i:Int):Ev (fun k=>Qw.j2 k tk rc b i false l0 l1 l2 a3 a4) (qcZ l0 l1 l2 a4 tk rc b):=by
 cases b with
 | false =>
  refine Ev.step (f:=fun _=>some ([],92)) (fun k => ?_) (Ev.now _)
  simp [Qw.j2]
 | true =>
  refine Ev.step (f:=fun k=>Qw.l1 k tk rc [] (tk.length:Int) ((0:Nat):Int) l0 l1 l2 a3 a4 (rd l0 0) (rd l0 1) (rd l0 2) (rd l0 3) (rd l0 4) (rd l0 5)) (fun k => ?_) (qe3 l0 l1 l2 a3 a4 ho tk rc hlen h10 tk.length 0 [rd l0 0,rd l0 1,rd l0 2,rd l0 3,rd l0 4,rd l0 5] [] rfl rfl (by omega))
  simp only [Qw.j2]
  rw [if_neg (by decide),if_pos trivial,qhS l0 l1 l2 a3 a4 ho.2.1]
  rfl
theorem qe2:∀ (d i:Nat) (b:Bool),i+d=tk.length→Ev (fun k=>Qw.l0 k tk rc b (i:Int) l0 l1 l2 a3 a4) (qcZ l0 l1 l2 a4 tk rc (b&&tR tk rc d i)):=by
 intro d
 induction d with
 | zero =>
  intro i b hi
  rw [tR,Bool.and_true]
  refine Ev.step (f:=fun k=>Qw.j2 k tk rc b (i:Int) false l0 l1 l2 a3 a4) (fun k => ?_) (XS l0 l1 l2 a3 a4 ho tk rc hlen h10 b i)
  simp only [Qw.l0]
  rw [decide_eq_false (by omega:¬ (i:Int)<(tk.length:Int))]
  cases b<;>rfl
 | succ d ih =>
  intro i b hi
  cases b with
  | false =>
   rw [Bool.false_and]
   refine Ev.step (f:=fun k=>Qw.j2 k tk rc false (i:Int) false l0 l1 l2 a3 a4) (fun k => ?_) (XS l0 l1 l2 a3 a4 ho tk rc hlen h10 false i)
   simp [Qw.l0]
  | true =>
   have hlt:i<tk.length:=by omega
   rw [Bool.true_and,tR]
   refine Ev.step (f:=fun k=>Qw.j2 k tk rc true (i:Int) true l0 l1 l2 a3 a4) (fun k => ?_) ?_
   ·
    simp only [Qw.l0];rw [decide_eq_true (by omega:(i:Int)<(tk.length:Int))]
    rfl
   ·
    refine Ev.step (f:=fun k=>Qw.l0 k tk rc (wi (rd tk i) 0 100000000&&wi (rd rc i) 0 100000) ((i+1:Nat):Int) l0 l1 l2 a3 a4) (fun k => ?_) (ih (i+1) _ (by omega));have hw:=wr1 i tk.length hlt (by omega);simp only [Qw.j2,Gf,Option.bind_some,hw];rw [if_pos trivial,if_pos (by omega),if_pos (by omega)]
    cases h1:wi (rd tk i) 0 100000000 with
    | false=>simp
    | true =>
     rw [if_pos rfl,if_pos (by omega)]
     simp
end
theorem quR (tk rc:List Int) (h:rc.length=tk.length):∀ (d i:Nat),i+d=tk.length→tR tk rc d i=((tk.drop i).all (fun x=>wi x 0 100000000)&&(rc.drop i).all (fun x=>wi x 0 100000)):=by
 intro d
 induction d with
 | zero=>intro i hi;rw [List.drop_eq_nil_of_le (by omega),List.drop_eq_nil_of_le (by omega),tR];rfl
 | succ d ih =>
  intro i hi
  have h1:i<tk.length:=by omega
  have h2:i<rc.length:=by omega
  rw [List.drop_eq_getElem_cons h1,List.drop_eq_getElem_cons h2,List.all_cons,List.all_cons,tR,ih (i+1) (by omega),rdI tk i h1,rdI rc i h2]
  cases wi tk[i] 0 100000000<;>cases wi rc[i] 0 100000<;>simp
def plOk (s:S39) (tk rc:List Int):Bool:=isR s.f0 s.f1 s.f2 s.f3 s.f4&&wi (tk.length:Int) 1 10&&((rc.length:Int)==(tk.length:Int))&&(tk.all (fun x=>wi x 0 100000000)&&rc.all (fun x=>wi x 0 100000))
theorem qeD (l0 l1 l2:List Int) (a3 a4:Int) (tk rc:List Int):Ev (fun k=>Qw.j0 k tk rc false l0 l1 l2 a3 a4) ([],92):=by
 refine Ev.step (f:=fun k=>Qw.l0 k tk rc false 0 l0 l1 l2 a3 a4) (fun k=>by simp [Qw.j0]) ?_
 refine Ev.step (f:=fun k=>Qw.j2 k tk rc false 0 false l0 l1 l2 a3 a4) (fun k=>by simp [Qw.l0]) ?_
 refine Ev.step (f:=fun _=>some ([],92)) (fun k => ?_) (Ev.now _)
 simp [Qw.j2]
theorem qe1 (s:S39) (tk rc:List Int):Ev (fun k=>Qw.f k s.f0 s.f1 s.f2 s.f3 s.f4 tk rc) (qcZ s.f0 s.f1 s.f2 s.f4 tk rc (plOk s tk rc)):=by
 refine Ev.bind (qfp s.f0 s.f1 s.f2 s.f3 s.f4) ?_
 have HF:=qeD s.f0 s.f1 s.f2 s.f3 s.f4 tk rc
 unfold plOk
 simp only [Gf,Option.bind_some]
 cases h1:isR s.f0 s.f1 s.f2 s.f3 s.f4 with
 | false=>simpa [qcZ] using HF
 | true =>
  cases h2:wi (tk.length:Int) 1 10 with
  | false=>simpa [qcZ] using HF
  | true =>
   by_cases h3:rc.length=tk.length
   ·
    have g2:=Gh.1 h2
    have e3:((rc.length:Int)==(tk.length:Int))=true:=by simp [h3]
    rw [e3];have h:=qe2 s.f0 s.f1 s.f2 s.f3 s.f4 (qjJ h1).1 tk rc h3 (by omega) tk.length 0 true (by omega);rw [quR tk rc h3 tk.length 0 (by omega)] at h;refine Ev.step (f:=fun k=>Qw.l0 k tk rc true ((0:Nat):Int) s.f0 s.f1 s.f2 s.f3 s.f4) (fun k => ?_) h
    simp [Qw.j0]
   ·
    have e3:((rc.length:Int)==(tk.length:Int))=false:=by simp;omega
    rw [e3]
    simpa [qcZ] using HF
end
section
theorem qcG (n:List Int) (j i:Nat) (x:Int) (hj:j<n.length):rd (n.set j x) (i:Int)=if i=j then x else rd n (i:Int):=by
 simp only [rd,Int.toNat_natCast,List.getD_eq_getElem?_getD,List.getElem?_set]
 by_cases h:i=j
 ·
  subst h;simp [hj]
 ·
  rw [if_neg h,if_neg (fun e=>h e.symm)]
theorem qgQ (n:List Int) (i:Nat) (h:n.length≤i):rd n (i:Int)=0:=by
 simp [rd,List.getD_eq_getElem?_getD,List.getElem?_eq_none h]
def Les (M:Int) (a b:List Int):Prop:=∀ i:Nat,0≤rd a i∧rd a i≤rd b i∧rd b i≤M
theorem qpb (x y t u M:Int) (hM:M≤10000000000000) (h0:0≤x) (h1:x≤y) (h2:y≤M) (t0:0≤u) (t1:u≤t) (t2:t≤10000000000000) :
  0≤wrap64 (x-mn x t)∧wrap64 (x-mn x t)≤wrap64 (y-mn y u)∧wrap64 (y-mn y u)≤M∧0≤wrap64 (u-mn y u)∧wrap64 (u-mn y u)≤wrap64 (t-mn x t)∧wrap64 (t-mn x t)≤10000000000000:=by
 have e:∀ z:Int,-10000000000000≤z→z≤10000000000000→wrap64 z=z:=fun z g1 g2=>by unfold wrap64;omega
 have m1:mn x t=x∧x≤t∨mn x t=t∧t<x:=by unfold mn;split<;>omega
 have m2:mn y u=y∧y≤u∨mn y u=u∧u<y:=by unfold mn;split<;>omega
 rcases m1 with ⟨a1,a2⟩|⟨a1,a2⟩<;>rcases m2 with ⟨c1,c2⟩|⟨c1,c2⟩<;>rw [a1,c1]<;>rw [e _ (by omega) (by omega),e _ (by omega) (by omega),e _ (by omega) (by omega),e _ (by omega) (by omega)]<;>omega
theorem qeo (mesh M:Int) (hM:M≤10000000000000):∀ (j:Nat) (a b:List Int) (t u:Int),a.length=6→b.length=6→j≤6→Les M a b→0≤u→u≤t→t≤10000000000000→Les M (O7 mesh j a t).1 (O7 mesh j b u).1
 | 0,a,b,t,u,_,_,_,h,_,_,_=>h
 | j+1,a,b,t,u,ha,hb,hj,h,u0,ut,t1=>by
  rw [O7,O7]
  by_cases c:mesh≤(j:Int)
  ·
   rw [if_pos c,if_pos c]
   obtain ⟨g1,g2,g3⟩:=h j
   obtain ⟨k1,k2,k3,k4,k5,k6⟩:=qpb (rd a j) (rd b j) t u M hM g1 g2 g3 u0 ut t1
   refine qeo mesh M hM j _ _ _ _ (by rw [List.length_set];exact ha) (by rw [List.length_set];exact hb) (by omega) (fun i => ?_) k4 k5 k6
   rw [qcG a j i _ (by omega),qcG b j i _ (by omega)]
   by_cases e:i=j
   ·
    rw [if_pos e,if_pos e];exact ⟨k1,k2,k3⟩
   ·
    rw [if_neg e,if_neg e];exact h i
  ·
   rw [if_neg c,if_neg c];exact h
theorem qfk {x y s M:Int} (h0:0≤x) (h1:x≤y) (h2:y≤M) (hM:M≤10000000000000) (s0:0≤s) (s1:s≤1000):0≤wrap64 (x*s)∧wrap64 (x*s)≤wrap64 (y*s)∧wrap64 (y*s)≤M*s∧wrap64 (x*s)=x*s∧wrap64 (y*s)=y*s:=by
 have a1:0≤x*s:=Int.mul_nonneg h0 s0
 have a2:x*s≤y*s:=Int.mul_le_mul_of_nonneg_right h1 s0
 have a3:y*s≤M*s:=Int.mul_le_mul_of_nonneg_right h2 s0
 have a4:M*s≤10000000000000*1000:=Int.mul_le_mul hM s1 s0 (by decide)
 have e:∀ z:Int,0≤z→z≤10000000000000000→wrap64 z=z:=fun z g1 g2=>by unfold wrap64;omega
 rw [e _ a1 (by omega),e _ (by omega) (by omega)]
 exact ⟨a1,a2,a3,rfl,rfl⟩
theorem qiG (a b sp:List Int) (M:Int) (hM:M≤10000000000000) (h:Les M a b):∀ (L:List Nat) (s z:Int),(∀ i∈L,0≤rd sp i∧rd sp i≤1000)→L.length≤6→0≤s→s≤z→z≤10000000000000000*(6-L.length) →
  (L.map fun i:Nat=>wrap64 (rd a i*rd sp i)).foldl (fun s x=>wrap64 (s+x)) s≤(L.map fun i:Nat=>wrap64 (rd b i*rd sp i)).foldl (fun s x=>wrap64 (s+x)) z
 | [],s,z,_,_,_,h2,_=>h2
 | i::L,s,z,hs,hl,h1,h2,h3=>by
  obtain ⟨g1,g2,g3⟩:=h i
  obtain ⟨p0,p1⟩:=hs i (by simp)
  obtain ⟨k1,k2,k3,k4,k5⟩:=qfk g1 g2 g3 hM p0 p1
  have k6:M*rd sp i≤10000000000000*1000:=Int.mul_le_mul hM p1 p0 (by decide)
  simp only [List.map_cons,List.foldl_cons]
  simp only [List.length_cons] at hl h3
  have e:∀ z:Int,0≤z→z≤60000000000000000→wrap64 z=z:=fun z g1 g2=>by unfold wrap64;omega
  obtain ⟨X,hX⟩:∃ X,wrap64 (rd a i*rd sp i)=X:=⟨_,rfl⟩
  obtain ⟨Z,hZ⟩:∃ Z,wrap64 (rd b i*rd sp i)=Z:=⟨_,rfl⟩
  rw [hX] at k1 k2 ⊢
  rw [hZ] at k2 k3 ⊢
  obtain ⟨n,hn⟩:∃ n,L.length=n:=⟨_,rfl⟩
  rw [hn] at hl h3
  rw [e (s+X) (by omega) (by omega),e (z+Z) (by omega) (by omega)]
  exact qiG a b sp M hM h L (s+X) (z+Z) (fun i hi=>hs i (by simp [hi])) (by omega) (by omega) (by omega) (by rw [hn];omega)
theorem qfm (m:Nat) (h1:1≤m) (h6:m≤6) (a b kp:List Int) (M:Int) (hM0:0≤M) (hM:M≤1500000000000) (h:Les M a b) (hk:∀ i:Nat,i<m→0≤rd kp i∧rd kp i≤1000):∀ k:Nat,k≤m→Les (M*k) (OB ((m:Int)-1) a kp k) (OB ((m:Int)-1) b kp k)
 | 0,_=>fun i=>by
  have e:rd (OB ((m:Int)-1) a kp 0) i=0:=by
   have:∀ i:Nat,rd [0,0,0,0,0,0] (i:Int)=0:=fun i=>by
    rcases (by omega:i=0∨i=1∨i=2∨i=3∨i=4∨i=5∨6≤i) with h|h|h|h|h|h|h
    any_goals (subst h;rfl)
    exact qgQ _ i (by simpa using h)
   exact this i
  have e2:rd (OB ((m:Int)-1) b kp 0) i=0:=e
  rw [e,e2]
  simp
 | k+1,hkm=>fun i=>by
  have ih:=qfm m h1 h6 a b kp M hM0 hM h hk k (by omega)
  obtain ⟨q,hq,hqm⟩:∃ q:Nat,mn ((k:Int)+1) ((m:Int)-1)=(q:Int)∧q<m:=by
   refine ⟨(mn ((k:Int)+1) ((m:Int)-1)).toNat,?_,?_⟩<;>unfold mn<;>split<;>omega
  obtain ⟨g1,g2,g3⟩:=h k
  obtain ⟨p0,p1⟩:=hk k (by omega)
  obtain ⟨k1,k2,k3,k4,k5⟩:=qfk g1 g2 g3 (by omega:M≤10000000000000) p0 p1
  obtain ⟨i1,i2,i3⟩:=ih q
  obtain ⟨j1,j2,j3⟩:=ih i
  have hMk:0≤M*(k:Int):=Int.mul_nonneg hM0 (Int.natCast_nonneg k)
  have qFq:M*(k:Int)≤1500000000000*6:=Int.mul_le_mul hM (by omega) (Int.natCast_nonneg k) (by decide)
  have eM:M*((k+1:Nat):Int)=M*(k:Int)+M:=by rw [Int.natCast_add,Int.mul_add];simp
  rw [OB,OB,hq,Int.toNat_natCast,qcG _ q i _ (by rw [Od];omega),qcG _ q i _ (by rw [Od];omega),eM]
  have hu:rd b k*rd kp k≤rd b k*1000:=Int.mul_le_mul_of_nonneg_left p1 (by omega)
  rw [k4,k5]
  rw [k4] at k1 k2
  rw [k5] at k2 k3
  obtain ⟨X,hX⟩:∃ X,rd a k*rd kp k=X:=⟨_,rfl⟩
  obtain ⟨Z,hZ⟩:∃ Z,rd b k*rd kp k=Z:=⟨_,rfl⟩
  rw [hX] at k1 k2 ⊢
  rw [hZ] at k2 k3 hu ⊢
  rw [Int.tdiv_eq_ediv_of_nonneg k1,Int.tdiv_eq_ediv_of_nonneg (by omega)]
  obtain ⟨Q,hQ⟩:∃ Q,M*(k:Int)=Q:=⟨_,rfl⟩
  rw [hQ] at hMk qFq i3 j3 ⊢
  have e:∀ z:Int,0≤z→z≤60000000000000000→wrap64 z=z:=fun z g1 g2=>by unfold wrap64;omega
  rw [e (X / 1000) (by omega) (by omega),e (Z / 1000) (by omega) (by omega),e _ (by omega) (by omega),e _ (by omega) (by omega)]
  by_cases c:i=q
  ·
   rw [if_pos c,if_pos c];omega
  ·
   rw [if_neg c,if_neg c];omega
theorem qfo (m:Nat) (h1:1≤m) (h6:m≤6) (mesh:Int) (kp sp a b:List Int) (M t u r:Int) (ha:a.length=6) (hb:b.length=6) (hM0:0≤M) (hM:M≤1500000000000) (h:Les M a b) (hk:∀ i:Nat,i<m→0≤rd kp i∧rd kp i≤1000) (hs:∀ i:Nat,i<m→0≤rd sp i∧rd sp i≤1000) (u0:0≤u) (ut:u≤t) (t1:t≤10000000000000) (r0:0≤r) (r1:r≤100000) :
  (Jr m mesh kp sp a t r).1≤(Jr m mesh kp sp b u r).1∧Les (M*6+100000) (Jr m mesh kp sp a t r).2 (Jr m mesh kp sp b u r).2:=by
 have hc:=qeo mesh M (by omega) m a b t u ha hb h6 h u0 ut t1
 constructor
 ·
  exact qiG _ _ sp M (by omega) hc (List.range m) 0 0 (fun i hi=>hs i (List.mem_range.1 hi)) (by simpa using h6) (by decide) (by decide) (by rw [List.length_range];omega)
 ·
  intro i
  have hn:=qfm m h1 h6 _ _ kp M hM0 hM hc hk m (Nat.le_refl _)
  have hMm:M*(m:Int)≤M*6:=Int.mul_le_mul_of_nonneg_left (by omega) hM0
  obtain ⟨n1,n2,n3⟩:=hn i
  obtain ⟨z1,z2,z3⟩:=hn 0
  have e0:∀ l:List Int,rd l ((0:Nat):Int)=rd l 0:=fun l=>rfl
  rw [e0] at z1 z2
  rw [e0] at z2 z3
  have e:∀ z:Int,0≤z→z≤60000000000000000→wrap64 z=z:=fun z g1 g2=>by unfold wrap64;omega
  unfold Jr
  simp only
  rw [qcG _ 0 i _ (by rw [Od];omega),qcG _ 0 i _ (by rw [Od];omega)]
  by_cases c:i=0
  ·
   rw [if_pos c,if_pos c,e _ (by omega) (by omega),e _ (by omega) (by omega)]
   omega
  ·
   rw [if_neg c,if_neg c]
   omega
def Mb:Nat→Int
 | 0=>100000
 | y+1=>Mb y*6+100000
theorem qcD:∀ y,0≤Mb y
 | 0=>by decide
 | y+1=>by have:=qcD y;rw [Mb];omega
theorem qhD (y:Nat) (h:y≤9):Mb y≤1500000000000:=by
 rcases (by omega:y=0∨y=1∨y=2∨y=3∨y=4∨y=5∨y=6∨y=7∨y=8∨y=9) with h|h|h|h|h|h|h|h|h|h<;>subst h<;>decide
end
section
attribute [local go_sem] Ys Yu YG YH Yj Yk Yt Yv
end
section
attribute [local go_sem] Ys Yu YG YH Yj Yk Yt Yv
end
section
attribute [local go_sem] Ys Yu YG YH Yj Yk Yt Yv
end
section
attribute [local go_sem] Ys Yu YG YH Yj Yk Yt Yv
end
section
attribute [local go_sem] Ys Yu YG YH Yj Yk Yt Yv
end
section
attribute [local go_sem] Ys Yu YG YH Yj Yk Yt Yv
end
section
theorem qde {α:Type} {d:Kd α} {w:World} {A:Option Addr} {n:Nat} {xs:List α} (h:d.C w A n xs):xs.length≤9223372036854775807:=by
 obtain ⟨h1,h2,_⟩:=h
 omega
theorem qr6 {α:Type} {d:Kd α} {w:World} {A:Option Addr} {xs:List α} (h:d.C w A xs.length xs) {x:α} (hx:x∈xs):∃ c,d.K w x c:=by
 obtain ⟨i,hi,rfl⟩:=List.getElem_of_mem hx
 obtain ⟨ad,c,e,_,hK,_⟩:=Kd.C_get h xs[i] (i:Int) (by omega) (by omega)
 refine ⟨c,?_⟩
 have:xs.getD ((i:Int)).toNat xs[i]=xs[i]:=by simp [List.getD_eq_getElem?_getD,List.getElem?_eq_getElem hi]
 rw [this] at hK
 exact hK
def LB2 (l:List (List Int)):Prop:=l.length≤9223372036854775807 ∧ ∀ r∈l,r.length≤9223372036854775807
def LB (l:List (List (List Int))):Prop:=l.length≤9223372036854775807 ∧ ∀ s∈l,LB2 s
theorem qkt {w:World} {A:Option Addr} {l:List (List Int)} (h:Kd.C (Kd.slice 3 (Kd.int .i64)) w A l.length l):LB2 l:=by
 refine ⟨qde h,fun r hr => ?_⟩
 obtain ⟨c,A1,c1,_,_,h1⟩:=qr6 h hr
 exact qde h1
theorem qeZ {w:World} {A:Option Addr} {l:List (List (List Int))} (h:Kd.C (Kd.slice 37 (Kd.slice 3 (Kd.int .i64))) w A l.length l):LB l:=by
 refine ⟨qde h,fun r hr => ?_⟩
 obtain ⟨c,A1,c1,_,_,h1⟩:=qr6 h hr
 exact qkt h1
end
section
theorem qrQ (l:List (List Int)) (i:Nat) (h:i<l.length):QM l (i:Int)=l[i]:=by simp [QM,List.getD_eq_getElem?_getD,List.getElem?_eq_getElem h]
theorem qm2 (l:List (List (List Int))) (i:Nat) (h:i<l.length):Qq l (i:Int)=l[i]:=by simp [Qq,List.getD_eq_getElem?_getD,List.getElem?_eq_getElem h]
def isS (s:S39):Bool:=isR s.f0 s.f1 s.f2 s.f3 s.f4
def yrs (q:List (List (List Int))):Nat:=(QM (Qq q 0) 0).length
def vals (row:List Int):Bool:=row.all (fun x=>wi x 0 100000)
def qaN (y:Nat) (row:List Int):Bool:=(wi (row.length:Int) 1 10&&((row.length:Int)==(y:Int)))&&vals row
def qaO (n y:Nat) (s:List (List Int)):Bool:=((s.length:Int)==(n:Int))&&s.all (qaN y)
def rOk (races:List S39) (keep:List Int):Nat→Nat→Bool
 | 0,_=>true
 | d+1,i=>(isS (Qc races i)&&wi (rd keep i) 0 100)&&rOk races keep d (i+1)
section
variable (races:List S39) (keep:List Int) (q:List (List (List Int))) (hq:LB q)
theorem quK (n:Nat) (S si:Int) (s:List (List Int)) (sl ri:Int) (row:List Int) (hn:row.length≤9223372036854775807) (r:Int):∀ (d j:Nat) (b:Bool),j+d=row.length→Ev (fun k=>Qj.l2 k n (b&&(row.drop j).all (fun x=>wi x 0 100000)) q S si s sl (wrap64 (ri+1)) races keep q) r→Ev (fun k=>Qj.l3 k n b q S si s sl ri row (row.length:Int) (j:Int) races keep q) r:=by
 intro d
 induction d with
 | zero =>
  intro j b hj h
  rw [List.drop_eq_nil_of_le (by omega),List.all_nil,Bool.and_true] at h
  refine Ev.step (fun k => ?_) h
  simp only [Qj.l3]
  rw [if_neg (by omega)]
 | succ d ih =>
  intro j b hj h
  have hlt:j<row.length:=by omega
  rw [List.drop_eq_getElem_cons hlt,List.all_cons,← Bool.and_assoc] at h
  refine Ev.step (f:=fun k=>Qj.l3 k n (b&&wi row[j] 0 100000) q S si s sl ri row (row.length:Int) ((j+1:Nat):Int) races keep q) (fun k => ?_) (ih (j+1) _ (by omega) h)
  have hw:=wr1 j row.length hlt (by omega)
  simp only [Qj.l3,Gf,Option.bind_some,hw,rdI row j hlt]
  rw [if_pos (by omega),if_pos (by omega),if_pos (by omega)]
  cases b<;>simp
theorem qpa (n:Nat) (S si:Int) (s:List (List Int)) (hs:LB2 s) (r:Int):∀ (d i:Nat) (b:Bool),i+d=s.length→(b=true→0<q.length∧0<(Qq q 0).length)→Ev (fun k=>Qj.l1 k n (b&&(s.drop i).all (qaN (yrs q))) q S (wrap64 (si+1)) races keep q) r→Ev (fun k=>Qj.l2 k n b q S si s (s.length:Int) (i:Int) races keep q) r:=by
 intro d
 induction d with
 | zero =>
  intro i b hi hb h
  rw [List.drop_eq_nil_of_le (by omega),List.all_nil,Bool.and_true] at h
  refine Ev.step (fun k => ?_) h
  simp only [Qj.l2]
  rw [if_neg (by omega)]
 | succ d ih =>
  intro i b hi hb h
  have hlt:i<s.length:=by omega
  have hs1:=hs.1
  rw [List.drop_eq_getElem_cons hlt,List.all_cons,← Bool.and_assoc] at h
  have hrow:s[i].length≤9223372036854775807:=hs.2 _ (List.getElem_mem hlt)
  have hw:=wr1 i s.length hlt (by omega)
  refine Ev.step (f:=fun k=>Qj.j6 k n (b&&(wi (s[i].length:Int) 1 10&&((s[i].length:Int)==(yrs q:Int)))) s[i] q S si s (s.length:Int) (i:Int) races keep q) (fun k => ?_) (Ev.step (f:=fun k=>Qj.l3 k n (b&&(wi (s[i].length:Int) 1 10&&((s[i].length:Int)==(yrs q:Int)))) q S si s (s.length:Int) (i:Int) s[i] (s[i].length:Int) ((0:Nat):Int) races keep q) (fun k=>by simp [Qj.j6]) ?_)
  ·
   simp only [Qj.l2,Gf,Option.bind_some,qrQ s i hlt]
   rw [if_pos (by omega),if_pos (by omega),if_pos (by omega)]
   cases b with
   | false=>simp
   | true =>
    obtain ⟨g1,g2⟩:=hb rfl
    cases h1:wi (s[i].length:Int) 1 10 with
    | false=>simp
    | true =>
     rw [if_pos rfl,if_pos rfl,if_pos (by omega),if_pos (by omega)]
     rfl
  ·
   refine quK races keep q n S si s _ _ s[i] hrow r s[i].length 0 _ (by omega) ?_
   rw [hw,List.drop_zero]
   refine ih (i+1) _ (by omega) (fun hh=>hb ?_) ?_
   ·
    simp only [Bool.and_eq_true] at hh
    exact hh.1.1
   ·
    have e:(b&&(wi (s[i].length:Int) 1 10&&((s[i].length:Int)==(yrs q:Int)))&&s[i].all (fun x=>wi x 0 100000)&&(s.drop (i+1)).all (qaN (yrs q)))=(b&&qaN (yrs q) s[i]&&(s.drop (i+1)).all (qaN (yrs q))):=by
     unfold qaN vals;simp only [Bool.and_assoc]
    rw [e]
    exact h
def cres (b:Bool):Int:=if b=true then 0 else 93
include hq in
theorem quJ (n:Nat) (hn1:1≤n):∀ (d i:Nat) (b:Bool),i+d=q.length→(b=true→0<i→(Qq q 0).length=n)→Ev (fun k=>Qj.l1 k n b q (q.length:Int) (i:Int) races keep q) (cres (b&&(q.drop i).all (qaO n (yrs q)))):=by
 intro d
 induction d with
 | zero =>
  intro i b hi hb
  rw [List.drop_eq_nil_of_le (by omega),List.all_nil,Bool.and_true]
  refine Ev.step (f:=fun _=>some (cres b)) (fun k => ?_) (Ev.now _)
  simp only [Qj.l1]
  rw [if_neg (by omega)]
  cases b<;>rfl
 | succ d ih =>
  intro i b hi hb
  have hlt:i<q.length:=by omega
  have hq1:=hq.1
  have hw:=wr1 i q.length hlt (by omega)
  rw [List.drop_eq_getElem_cons hlt,List.all_cons]
  have hbn:(b&&((q[i].length:Int)==(n:Int)))=true→(Qq q 0).length=n:=fun hh=>by
   rw [Bool.and_eq_true] at hh
   by_cases h0:0<i
   ·
    exact hb hh.1 h0
   ·
    have e0:i=0:=by omega
    subst e0;have:=qm2 q 0 hlt;have h2:=hh.2
    simp at h2
    rw [show Qq q 0=q[0] from this]
    omega
  refine Ev.step (f:=fun k=>Qj.j4 k n (b&&((q[i].length:Int)==(n:Int))) q[i] q (q.length:Int) (i:Int) races keep q) (fun k => ?_) (Ev.step (f:=fun k=>Qj.l2 k n (b&&((q[i].length:Int)==(n:Int))) q (q.length:Int) (i:Int) q[i] (q[i].length:Int) ((0:Nat):Int) races keep q) (fun k=>by simp [Qj.j4]) ?_)
  ·
   simp only [Qj.l1,qm2 q i hlt]
   rw [if_pos (by omega),if_pos (by omega),if_pos (by omega)]
   cases b<;>simp
  ·
   refine qpa races keep q n _ _ q[i] (hq.2 _ (List.getElem_mem hlt)) _ q[i].length 0 _ (by omega) (fun hh=>⟨by omega,by rw [hbn hh];omega⟩) ?_
   rw [hw,List.drop_zero]
   have e:(b&&(qaO n (yrs q) q[i]&&(q.drop (i+1)).all (qaO n (yrs q))))=(b&&((q[i].length:Int)==(n:Int))&&q[i].all (qaN (yrs q))&&(q.drop (i+1)).all (qaO n (yrs q))):=by
    unfold qaO;simp only [Bool.and_assoc]
   rw [e]
   refine ih (i+1) _ (by omega) (fun hh _=>hbn ?_)
   rw [Bool.and_eq_true] at hh
   exact hh.1
theorem quI (n:Nat) (hn:races.length=n) (hnb:n≤3) (r:Int):∀ (d i:Nat) (b:Bool),i+d=n→(b=true→keep.length=n)→Ev (fun k=>Qj.l1 k n (b&&rOk races keep d i) q (q.length:Int) ((0:Nat):Int) races keep q) r→Ev (fun k=>Qj.l0 k n b (i:Int) races keep q) r:=by
 have HF:∀ (i:Int) (b:Bool),Ev (fun k=>Qj.l1 k n b q (q.length:Int) ((0:Nat):Int) races keep q) r→Ev (fun k=>Qj.j2 k n b i false races keep q) r:=fun i b h=>by
  refine Ev.step (fun k => ?_) h
  simp [Qj.j2]
 intro d
 induction d with
 | zero =>
  intro i b hi hb h
  rw [rOk,Bool.and_true] at h
  refine Ev.step (f:=fun k=>Qj.j2 k n b (i:Int) false races keep q) (fun k => ?_) (HF _ _ h)
  simp only [Qj.l0]
  rw [decide_eq_false (by omega:¬ (i:Int)<(n:Int))]
  cases b<;>rfl
 | succ d ih =>
  intro i b hi hb h
  cases b with
  | false =>
   rw [Bool.false_and] at h
   refine Ev.step (f:=fun k=>Qj.j2 k n false (i:Int) false races keep q) (fun k => ?_) (HF _ _ h)
   simp [Qj.l0]
  | true =>
   have hk:=hb rfl
   rw [Bool.true_and,rOk] at h
   have hw:=wr1 i n (by omega) (by omega)
   refine Ev.step (f:=fun k=>Qj.j2 k n true (i:Int) true races keep q) (fun k => ?_) ?_
   ·
    simp only [Qj.l0];rw [decide_eq_true (by omega:(i:Int)<(n:Int))]
    rfl
   ·
    refine Ev.step (f:=fun k=>(Qh.f k ((Qc races i).f0) ((Qc races i).f1) ((Qc races i).f2) ((Qc races i).f3) ((Qc races i).f4)).bind fun qiH=>(if qiH=true then (Qj.l0 k n (wi (rd keep i) 0 100) ((i+1:Nat):Int) races keep q) else (Qj.l0 k n false ((i+1:Nat):Int) races keep q))) (fun k => ?_) (Ev.bind (qfp _ _ _ _ _) ?_)
    ·
     have g1:(0:Int)≤(i:Int):=by omega
     have g2:(i:Int)<(races.length:Int):=by omega
     have g3:(i:Int)<(keep.length:Int):=by omega
     simp only [Qj.j2,Gf,Option.bind_some,hw,if_pos g1,if_pos g2,if_pos g3,if_true]
    ·
     have e1:isR ((Qc races i).f0) ((Qc races i).f1) ((Qc races i).f2) ((Qc races i).f3) ((Qc races i).f4)=isS (Qc races i):=rfl;rw [e1]
     cases h1:isS (Qc races i) with
     | false =>
      rw [h1] at h;simp only [Bool.false_and] at h
      exact ih (i+1) false (by omega) (fun _=>hk) (by simpa using h)
     | true =>
      rw [h1] at h;simp only [Bool.true_and] at h
      exact ih (i+1) _ (by omega) (fun _=>hk) h
def okA (races:List S39) (keep:List Int) (q:List (List (List Int))):Bool :=
 (((wi (races.length:Int) 1 3&&decide (keep.length=races.length))&&wi (q.length:Int) 1 6)&&rOk races keep races.length 0)&&q.all (qaO races.length (yrs q))
include hq in
theorem qgV (n:Nat):∀ (d i:Nat),i+d=q.length→Ev (fun k=>Qj.l1 k n false q (q.length:Int) (i:Int) races keep q) 93:=by
 intro d
 induction d with
 | zero =>
  intro i hi
  refine Ev.step (f:=fun _=>some 93) (fun k => ?_) (Ev.now _)
  simp only [Qj.l1]
  rw [if_neg (by omega)]
  rfl
 | succ d ih =>
  intro i hi
  have hlt:i<q.length:=by omega
  have hq1:=hq.1
  have hw:=wr1 i q.length hlt (by omega)
  refine Ev.step (f:=fun k=>Qj.j4 k n false q[i] q (q.length:Int) (i:Int) races keep q) (fun k => ?_) (Ev.step (f:=fun k=>Qj.l2 k n false q (q.length:Int) (i:Int) q[i] (q[i].length:Int) ((0:Nat):Int) races keep q) (fun k=>by simp [Qj.j4]) ?_)
  ·
   simp only [Qj.l1,qm2 q i hlt]
   rw [if_pos (by omega),if_pos (by omega),if_pos (by omega)]
   simp
  ·
   refine qpa races keep q n _ _ q[i] (hq.2 _ (List.getElem_mem hlt)) _ q[i].length 0 _ (by omega) (fun hh=>by simp at hh) ?_
   rw [hw,Bool.false_and]
   exact ih (i+1) (by omega)
theorem qgU (n:Nat) (hq':LB q):Ev (fun k=>Qj.j0 k n false races keep q) 93:=by
 refine Ev.step (f:=fun k=>Qj.l0 k n false 0 races keep q) (fun k=>by simp [Qj.j0]) ?_
 refine Ev.step (f:=fun k=>Qj.j2 k n false 0 false races keep q) (fun k=>by simp [Qj.l0]) ?_
 refine Ev.step (f:=fun k=>Qj.l1 k n false q (q.length:Int) ((0:Nat):Int) races keep q) (fun k=>by simp [Qj.j2]) ?_
 exact qgV races keep q hq' n q.length 0 (by omega)
include hq in
theorem Ox:Ev (fun k=>Qj.f k races keep q) (cres (okA races keep q)):=by
 have HF:=qgU races keep q races.length hq
 unfold okA
 simp only [Qj.f,Gf,Option.bind_some]
 cases h1:wi (races.length:Int) 1 3 with
 | false=>simpa [cres] using HF
 | true =>
  have g1:=Gh.1 h1
  by_cases h2:keep.length=races.length
  ·
   simp only [h2,if_true,decide_true,Bool.true_and,Bool.and_true]
   refine Ev.step (f:=fun k=>Qj.l0 k (races.length:Int) (wi (q.length:Int) 1 6) ((0:Nat):Int) races keep q) (fun k=>by simp [Qj.j0]) ?_
   refine quI races keep q races.length rfl (by omega) _ races.length 0 _ (by omega) (fun _=>h2) ?_
   have h:=quJ races keep q hq races.length (by omega) q.length 0 (wi (q.length:Int) 1 6&&rOk races keep races.length 0) (by omega) (fun _ hh=>absurd hh (by omega))
   simpa using h
  ·
   have h2':¬ (keep.length:Int)=(races.length:Int):=by omega
   simpa [h2,h2',cres] using HF
end
theorem quV {q:List (List (List Int))} {n:Nat} (hn:1≤n) (h:q.all (qaO n (yrs q))=true) (h1:1≤q.length):wi (yrs q:Int) 1 10=true:=by
 have h0:=List.all_eq_true.1 h q[0] (List.getElem_mem (by omega))
 unfold qaO at h0
 rw [Bool.and_eq_true] at h0
 have hl:q[0].length=n:=by have:=h0.1;simp at this;omega
 have hr:=List.all_eq_true.1 h0.2 q[0][0] (List.getElem_mem (by omega))
 unfold qaN at hr
 simp only [Bool.and_eq_true] at hr
 have e:yrs q=q[0][0].length:=by
  unfold yrs
  have e1:=qm2 q 0 (by omega)
  have e2:=qrQ q[0] 0 (by omega)
  rw [show Qq q 0=q[0] from e1,show QM q[0] 0=q[0][0] from e2]
 rw [e]
 exact hr.1.1
structure Fish (races:List S39) (keep:List Int) (q:List (List (List Int))):Prop where
 n1:1≤races.length
 n3:races.length≤3
 hk:keep.length=races.length
 s1:1≤q.length
 s6:q.length≤6
 y1:1≤yrs q
 y10:yrs q≤10
 ra:∀ i:Nat,i<races.length→isS (Qc races i)=true∧wi (rd keep i) 0 100=true
 se:∀ s:Nat,s<q.length→(Qq q s).length=races.length ∧ ∀ r:Nat,r<races.length→(QM (Qq q s) r).length=yrs q
theorem qo6 {races:List S39} {keep:List Int}:∀ (d i:Nat),rOk races keep d i=true → ∀ j:Nat,i≤j→j<i+d→isS (Qc races j)=true∧wi (rd keep j) 0 100=true
 | 0,i,_,j,h1,h2=>by omega
 | d+1,i,h,j,h1,h2=>by
  rw [rOk,Bool.and_eq_true,Bool.and_eq_true] at h
  by_cases hj:j=i
  ·
   rw [hj];exact h.1
  ·
   exact qo6 d (i+1) h.2 j (by omega) (by omega)
theorem qbo {races:List S39} {keep:List Int} {q:List (List (List Int))} (h:okA races keep q=true):Fish races keep q:=by
 unfold okA at h
 simp only [Bool.and_eq_true,decide_eq_true_eq] at h
 obtain ⟨⟨⟨⟨h1,h2⟩,h3⟩,h4⟩,h5⟩:=h
 have g1:=Gh.1 h1
 have g3:=Gh.1 h3
 have g5:=Gh.1 (quV (by omega) h5 (by omega))
 refine ⟨by omega,by omega,h2,by omega,by omega,by omega,by omega,fun i hi=>qo6 _ _ h4 i (by omega) (by omega),fun s hs => ?_⟩
 have h6:=List.all_eq_true.1 h5 q[s] (List.getElem_mem hs)
 rw [qm2 q s hs]
 unfold qaO at h6
 rw [Bool.and_eq_true] at h6
 have hl:q[s].length=races.length:=by have:=h6.1;simp at this;omega
 refine ⟨hl,fun r hr => ?_⟩
 have h7:=List.all_eq_true.1 h6.2 q[s][r] (List.getElem_mem (by omega))
 rw [qrQ q[s] r (by omega)]
 unfold qaN at h7
 simp only [Bool.and_eq_true] at h7
 have:=h7.1.2
 simp at this
 omega
end
end Go.Proofs.Ytmhomdohhihlcaa.P
