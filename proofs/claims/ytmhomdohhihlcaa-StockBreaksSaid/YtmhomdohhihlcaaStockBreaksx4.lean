/- What the statement StockBreaks leans on, part 5 of 6: contracts of the program's functions; conditions: none. -/
import Derived.Deep.RegionHeld3
import Derived.Test.YtmhomdohhihlcaaStockBreaksx0
import Derived.Test.YtmhomdohhihlcaaStockBreaksx1
import Derived.Test.YtmhomdohhihlcaaStockBreaksx2
import Derived.Test.YtmhomdohhihlcaaStockBreaksx3
set_option linter.unusedVariables false
set_option linter.unusedSimpArgs false
set_option linter.constructorNameAsVariable false
set_option linter.unusedSectionVars false
namespace Go.Proofs.Ytmhomdohhihlcaa.P
open Go.RowKit Go.Proofs.YtmhomdohhihlcaaW.PrintWords Go.Proofs.YtmhomdohhihlcaaW.PrintLast Go.Proofs.YtmhomdohhihlcaaW.PrintMore
section
attribute [local go_sem] Yv Yx YJ YK Yl Ym Yw Yy
attribute [local go_sem high] qqy
def Z3.l0:Nat→List (S25)→List (S25)→Int→Option (Bool)
 | 0,_,_,_=>none
 | k+1,x0,x1,x5=>if x5<(x0.length:Int) then (if 0≤x5 then (if x5<(x1.length:Int) then (if (!(((YU x0 x5).f0)==((YU x1 x5).f0))||(!(((YU x0 x5).f1)==((YU x1 x5).f1))))=true then (some false) else (Z3.l0 k x0 x1 (wrap64 (x5+1)))) else (none)) else (none)) else (some true)
def Z3.f (k:Nat) (l0:List (S25)) (l1:List (S25)):Option (Bool):=if (l0.length:Int)=(l1.length:Int) then (Z3.l0 k l0 l1 0) else (some false)
set_option maxHeartbeats 8000000 in
set_option maxRecDepth 100000 in
theorem Z3.calls (k:Nat) (A0:Option Addr) (c0:Nat) (l0:List (S25)) (A1:Option Addr) (c1:Nat) (l1:List (S25)) (r:Bool) (w:World) (hr0:Kd.C k25 w A0 l0.length l0) (hc0:l0.length≤c0) (hr1:Kd.C k25 w A1 l1.length l1) (hc1:l1.length≤c1) (h:Z3.f k l0 l1=some r) :
  Calls Try.prog 24 #[.slice A0 l0.length c0,.slice A1 l1.length c1] w fun e w'=>e = .returned (.bool r)∧YI w w':=by
 have qeK:=Try.underlying25
 have HR0:=Q0.mk hr0
 have HC0:=Q0.mk hc0
 clear hr0 hc0
 have HR1:=Q0.mk hr1
 have HC1:=Q0.mk hc1
 clear hr1 hc1
 have H:(if (l0.length:Int)=(l1.length:Int) then (Z3.l0 k l0 l1 0) else (some false))=some r:=h
 clear h
 by_cases c3:(l0.length:Int)=(l1.length:Int)
 ·
  rw [if_pos c3] at H
  have c3b0:((l0.length:Int)==(l1.length:Int))=true:=beq_iff_eq.mpr c3
  have c3b1:((l0.length:Int) != (l1.length:Int))=false:=bne_eq_false_iff_eq.mpr c3
  have c3b2:(l0.length==l1.length)=true:=by first|simpa using c3|(simp at c3 ⊢;omega)
  clear c3
  have H':=Q0.mk H
  clear H
  go_enter Try.func24,Try.ntmps24
  go_wp2
  repeat (go_quiet (fail);try go_wp2)
  go_loopg [5] k (fun kq v5 w' => ∃ (Jg:Int),v5 = .int .i64 Jg∧Q0 (Z3.l0 kq l0 l1 Jg=some r)∧Q0 (kq≤k)∧YI w w')
  case atStart=>exact ⟨(0),(by first|rfl|(simp;done)|(simp [*];done)),H',⟨Nat.le_refl _⟩,by repeat (first|exact YI.refl _|apply YI.step)⟩
  case round =>
   clear H'
   try clear c1
   try clear c2
   try clear p2
   try clear c3
   try clear c3b0
   try clear c3b1
   try clear c3b2
   obtain ⟨Jg,rfl,HA,HK1,⟨m1,rfl⟩⟩:=hrel
   cases gk with
   | zero=>exact absurd HA.out (by simp [Z3.l0])
   | succ k1 =>
    have H:=HA.out;clear HA;simp only [Z3.l0] at H
    by_cases c4:Jg<(l0.length:Int)
    ·
     rw [if_pos c4] at H;have c4b0:decide (Jg<(l0.length:Int))=true:=decide_eq_true c4;clear c4
     by_cases c5:0≤Jg
     ·
      rw [if_pos c5] at H;have c5b0:decide (0≤Jg)=true:=decide_eq_true c5;clear c5
      by_cases c6:Jg<(l1.length:Int)
      ·
       rw [if_pos c6] at H;have c6b0:decide (Jg<(l1.length:Int))=true:=decide_eq_true c6;clear c6
       by_cases c7:(!(((YU l0 Jg).f0)==((YU l1 Jg).f0))||(!(((YU l0 Jg).f1)==((YU l1 Jg).f1))))=true
       ·
        rw [if_pos c7] at H;have c7b0:(!(((YU l0 Jg).f0)==((YU l1 Jg).f0))||(!(((YU l0 Jg).f1)==((YU l1 Jg).f1))))=true:=c7;clear c7;obtain rfl:=Option.some.inj H;have ql2:0≤(Jg:Int):=of_decide_eq_true (by first|(with_reducible assumption)|assumption);have qmi:Jg<(l0.length:Int):=of_decide_eq_true (by first|(with_reducible assumption)|assumption);obtain ⟨qyf,qwg,qtO,qtP⟩:=XO HR0.out Jg ql2 qmi;cases qwg;replace ql2:=eq_true ql2;replace qmi:=eq_true qmi;have ql3:0≤(Jg:Int):=of_decide_eq_true (by first|(with_reducible assumption)|assumption);have qmj:Jg<(l1.length:Int):=of_decide_eq_true (by first|(with_reducible assumption)|assumption);obtain ⟨qyg,e143,qtQ,qtR⟩:=XO HR1.out Jg ql3 qmj;cases e143;replace ql3:=eq_true ql3;replace qmj:=eq_true qmj
        go_wp2
        repeat (go_quiet (fail);try go_wp2)
        go_ret
        exact ⟨by first|rfl|(simp;done)|(simp [*];done),by repeat (first|exact YI.refl _|apply YI.step)⟩
       rw [if_neg c7] at H
       have c7b0:(!(((YU l0 Jg).f0)==((YU l1 Jg).f0))||(!(((YU l0 Jg).f1)==((YU l1 Jg).f1))))=false:=by simpa using c7
       clear c7;have H':=Q0.mk H;clear H;have ql2:0≤(Jg:Int):=of_decide_eq_true (by first|(with_reducible assumption)|assumption);have qmi:Jg<(l0.length:Int):=of_decide_eq_true (by first|(with_reducible assumption)|assumption);obtain ⟨qyf,qwg,qtO,qtP⟩:=XO HR0.out Jg ql2 qmi;cases qwg;replace ql2:=eq_true ql2;replace qmi:=eq_true qmi;have ql3:0≤(Jg:Int):=of_decide_eq_true (by first|(with_reducible assumption)|assumption);have qmj:Jg<(l1.length:Int):=of_decide_eq_true (by first|(with_reducible assumption)|assumption);obtain ⟨qyg,e143,qtQ,qtR⟩:=XO HR1.out Jg ql3 qmj;cases e143;replace ql3:=eq_true ql3;replace qmj:=eq_true qmj
       go_wp2
       repeat (go_quiet (fail);try go_wp2)
       go_roundg k1
       case measure=>have:=HK1.out;omega
       case rel=>exact ⟨(wrap64 (Jg+1)),(by first|rfl|(simp;done)|(simp [*];done)),H',⟨by have:=HK1.out;omega⟩,by repeat (first|exact YI.refl _|apply YI.step)⟩
      rw [if_neg c6] at H
      exact absurd H (by simp)
     rw [if_neg c5] at H
     exact absurd H (by simp)
    rw [if_neg c4] at H;have c4b0:decide (Jg<(l0.length:Int))=false:=decide_eq_false c4;clear c4;obtain rfl:=Option.some.inj H
    go_wp2
    repeat (go_quiet (fail);try go_wp2)
    go_ret
    exact ⟨by first|rfl|(simp;done)|(simp [*];done),by repeat (first|exact YI.refl _|apply YI.step)⟩
 rw [if_neg c3] at H
 have c3b0:((l0.length:Int)==(l1.length:Int))=false:=beq_eq_false_iff_ne.mpr c3
 have c3b1:((l0.length:Int) != (l1.length:Int))=true:=bne_iff_ne.mpr c3
 have c3b2:(l0.length==l1.length)=false:=by first|simpa using c3|(simp at c3 ⊢;omega)
 obtain rfl:=Option.some.inj H
 go_enter Try.func24,Try.ntmps24
 go_wp2
 repeat (go_quiet (fail);try go_wp2)
 go_ret
 exact ⟨by first|rfl|(simp;done)|(simp [*];done),by repeat (first|exact YI.refl _|apply YI.step)⟩
end
section
attribute [local go_sem] Yv Yx YJ YK Yl Ym Yw Yy
def Ze.l0:Nat→List Int→List Int→Int→Option (Bool)
 | 0,_,_,_=>none
 | k+1,x0,x1,x5=>if x5<(x0.length:Int) then (if 0≤x5 then (if x5<(x1.length:Int) then (if (rd x0 x5)=(rd x1 x5) then (Ze.l0 k x0 x1 (wrap64 (x5+1))) else (some false)) else (none)) else (none)) else (some true)
def Ze.f (k:Nat) (l0:List Int) (l1:List Int):Option (Bool):=if (l0.length:Int)=(l1.length:Int) then (Ze.l0 k l0 l1 0) else (some false)
set_option maxHeartbeats 8000000 in
set_option maxRecDepth 100000 in
theorem Ze.calls (k:Nat) (A0:Option Addr) (c0:Nat) (l0:List Int) (A1:Option Addr) (c1:Nat) (l1:List Int) (r:Bool) (w:World) (hr0:Kd.C (Kd.int .i64) w A0 l0.length l0) (hc0:l0.length≤c0) (hr1:Kd.C (Kd.int .i64) w A1 l1.length l1) (hc1:l1.length≤c1) (h:Ze.f k l0 l1=some r) :
  Calls Try.prog 27 #[.slice A0 l0.length c0,.slice A1 l1.length c1] w fun e w'=>e = .returned (.bool r)∧YI w w':=by
 have HR0:=Q0.mk hr0
 have HC0:=Q0.mk hc0
 clear hr0 hc0
 have HR1:=Q0.mk hr1
 have HC1:=Q0.mk hc1
 clear hr1 hc1
 have H:(if (l0.length:Int)=(l1.length:Int) then (Ze.l0 k l0 l1 0) else (some false))=some r:=h
 clear h
 by_cases c3:(l0.length:Int)=(l1.length:Int)
 ·
  rw [if_pos c3] at H
  have c3b0:((l0.length:Int)==(l1.length:Int))=true:=beq_iff_eq.mpr c3
  have c3b1:((l0.length:Int) != (l1.length:Int))=false:=bne_eq_false_iff_eq.mpr c3
  have c3b2:(l0.length==l1.length)=true:=by first|simpa using c3|(simp at c3 ⊢;omega)
  clear c3
  have H':=Q0.mk H
  clear H
  go_enter Try.func27,Try.ntmps27
  go_wp2
  repeat (go_quiet (fail);try go_wp2)
  go_loopg [5] k (fun kq v5 w' => ∃ (Jg:Int),v5 = .int .i64 Jg∧Q0 (Ze.l0 kq l0 l1 Jg=some r)∧Q0 (kq≤k)∧YI w w')
  case atStart=>exact ⟨(0),(by first|rfl|(simp;done)|(simp [*];done)),H',⟨Nat.le_refl _⟩,by repeat (first|exact YI.refl _|apply YI.step)⟩
  case round =>
   clear H'
   try clear c1
   try clear c2
   try clear p2
   try clear c3
   try clear c3b0
   try clear c3b1
   try clear c3b2
   obtain ⟨Jg,rfl,HA,HK1,⟨m1,rfl⟩⟩:=hrel
   cases gk with
   | zero=>exact absurd HA.out (by simp [Ze.l0])
   | succ k1 =>
    have H:=HA.out;clear HA;simp only [Ze.l0] at H
    by_cases c4:Jg<(l0.length:Int)
    ·
     rw [if_pos c4] at H;have c4b0:decide (Jg<(l0.length:Int))=true:=decide_eq_true c4;clear c4
     by_cases c5:0≤Jg
     ·
      rw [if_pos c5] at H;have c5b0:decide (0≤Jg)=true:=decide_eq_true c5;clear c5
      by_cases c6:Jg<(l1.length:Int)
      ·
       rw [if_pos c6] at H;have c6b0:decide (Jg<(l1.length:Int))=true:=decide_eq_true c6;clear c6
       by_cases c7:(rd l0 Jg)=(rd l1 Jg)
       ·
        rw [if_pos c7] at H;have c7b0:((rd l0 Jg)==(rd l1 Jg))=true:=beq_iff_eq.mpr c7;have c7b1:((rd l0 Jg) != (rd l1 Jg))=false:=bne_eq_false_iff_eq.mpr c7;clear c7;have H':=Q0.mk H;clear H;have ql5:0≤(Jg:Int):=of_decide_eq_true (by first|(with_reducible assumption)|assumption);have qml:Jg<(l0.length:Int):=of_decide_eq_true (by first|(with_reducible assumption)|assumption);obtain ⟨qyj,e185,qtS⟩:=Kd.at_int HR0.out Jg ql5 qml;cases e185;replace ql5:=eq_true ql5;replace qml:=eq_true qml;have ql6:0≤(Jg:Int):=of_decide_eq_true (by first|(with_reducible assumption)|assumption);have qmm:Jg<(l1.length:Int):=of_decide_eq_true (by first|(with_reducible assumption)|assumption);obtain ⟨qyk,qwj,qtT⟩:=Kd.at_int HR1.out Jg ql6 qmm;cases qwj;replace ql6:=eq_true ql6;replace qmm:=eq_true qmm
        go_wp2
        repeat (go_quiet (fail);try go_wp2)
        go_roundg k1
        case measure=>have:=HK1.out;omega
        case rel=>exact ⟨(wrap64 (Jg+1)),(by first|rfl|(simp;done)|(simp [*];done)),H',⟨by have:=HK1.out;omega⟩,by repeat (first|exact YI.refl _|apply YI.step)⟩
       rw [if_neg c7] at H;have c7b0:((rd l0 Jg)==(rd l1 Jg))=false:=beq_eq_false_iff_ne.mpr c7;have c7b1:((rd l0 Jg) != (rd l1 Jg))=true:=bne_iff_ne.mpr c7;obtain rfl:=Option.some.inj H;have ql5:0≤(Jg:Int):=of_decide_eq_true (by first|(with_reducible assumption)|assumption);have qml:Jg<(l0.length:Int):=of_decide_eq_true (by first|(with_reducible assumption)|assumption);obtain ⟨qyj,e185,qtS⟩:=Kd.at_int HR0.out Jg ql5 qml;cases e185;replace ql5:=eq_true ql5;replace qml:=eq_true qml;have ql6:0≤(Jg:Int):=of_decide_eq_true (by first|(with_reducible assumption)|assumption);have qmm:Jg<(l1.length:Int):=of_decide_eq_true (by first|(with_reducible assumption)|assumption);obtain ⟨qyk,qwj,qtT⟩:=Kd.at_int HR1.out Jg ql6 qmm;cases qwj;replace ql6:=eq_true ql6;replace qmm:=eq_true qmm
       go_wp2
       repeat (go_quiet (fail);try go_wp2)
       go_ret
       exact ⟨by first|rfl|(simp;done)|(simp [*];done),by repeat (first|exact YI.refl _|apply YI.step)⟩
      rw [if_neg c6] at H
      exact absurd H (by simp)
     rw [if_neg c5] at H
     exact absurd H (by simp)
    rw [if_neg c4] at H;have c4b0:decide (Jg<(l0.length:Int))=false:=decide_eq_false c4;clear c4;obtain rfl:=Option.some.inj H
    go_wp2
    repeat (go_quiet (fail);try go_wp2)
    go_ret
    exact ⟨by first|rfl|(simp;done)|(simp [*];done),by repeat (first|exact YI.refl _|apply YI.step)⟩
 rw [if_neg c3] at H
 have c3b0:((l0.length:Int)==(l1.length:Int))=false:=beq_eq_false_iff_ne.mpr c3
 have c3b1:((l0.length:Int) != (l1.length:Int))=true:=bne_iff_ne.mpr c3
 have c3b2:(l0.length==l1.length)=false:=by first|simpa using c3|(simp at c3 ⊢;omega)
 obtain rfl:=Option.some.inj H
 go_enter Try.func27,Try.ntmps27
 go_wp2
 repeat (go_quiet (fail);try go_wp2)
 go_ret
 exact ⟨by first|rfl|(simp;done)|(simp [*];done),by repeat (first|exact YI.refl _|apply YI.step)⟩
end
section
attribute [local go_sem] Yv Yx YJ YK Yl Ym Yw Yy
mutual
def Ye.l0:Nat→Int→Int→Int→List (S39)→List Int→List (List (List Int))→Option (Bool)
 | 0,_,_,_,_,_,_=>none
 | k+1,x1,x10,x11,qef,qeg,qbZ=>if x11<x10 then (Ye.l1 k x1 x11 x10 x11 (qbZ.length:Int) 0 qef qeg qbZ) else (some true)
def Ye.l1:Nat→Int→Int→Int→Int→Int→Int→List (S39)→List Int→List (List (List Int))→Option (Bool)
 | 0,_,_,_,_,_,_,_,_,_=>none
 | k+1,x1,x5,x10,x11,x17,x18,qef,qeg,qbZ=>if x18<x17 then ((Qy.f k qef qeg qbZ x5 x18 x1).bind fun t227=>(if t227≥0 then (some false) else (Ye.l1 k x1 x5 x10 x11 x17 (wrap64 (x18+1)) qef qeg qbZ))) else (Ye.l0 k x1 x10 (wrap64 (x11+1)) qef qeg qbZ)
end
def Ye.f (k:Nat) (Qa:List (S39)) (Qf:List Int) (Qb:List (List (List Int))) (a1:Int):Option (Bool):=Ye.l0 k a1 (Qa.length:Int) 0 Qa Qf Qb
set_option maxHeartbeats 8000000 in
set_option maxRecDepth 100000 in
theorem Ye.calls (k:Nat) (QD:Option Addr) (Qu:Nat) (Qa:List (S39)) (QB:Option Addr) (Qv:Nat) (Qf:List Int) (QK:Option Addr) (Qw:Nat) (Qb:List (List (List Int))) (a1:Int) (r:Bool) (w:World) (Gk:Kd.C k39 w QD Qa.length Qa) (Gy:Qa.length≤Qu) (Gl:Kd.C (Kd.int .i64) w QB Qf.length Qf) (Gz:Qf.length≤Qv) (Gm:Kd.C (Kd.slice 37 (Kd.slice 3 (Kd.int .i64))) w QK Qb.length Qb) (GA:Qb.length≤Qw) (h:Ye.f k Qa Qf Qb a1=some r) :
  Calls Try.prog 82 #[.agg #[.slice QD Qa.length Qu,.slice QB Qf.length Qv,.slice QK Qb.length Qw],.int .i64 a1] w fun e w'=>e = .returned (.bool r)∧Below w.heap.size w w':=by
 have qq3:=Try.underlying122
 have YV:=Q0.mk Gk
 have ZA:=Q0.mk Gy
 clear Gk Gy
 have Zj:=Q0.mk Gl
 have ZB:=Q0.mk Gz
 clear Gl Gz
 have Z5:=Q0.mk Gm
 have ZC:=Q0.mk GA
 clear Gm GA
 have HB:=Q0.mk (Below.refl w.heap.size w)
 have H:(Ye.l0 k a1 (Qa.length:Int) 0 Qa Qf Qb)=some r:=h
 clear h
 have H':=Q0.mk H
 clear H
 go_enter Try.func82,Try.ntmps82
 go_wp2_with (first|((with_reducible refine QZ (N:=2) rfl ?_);refine Yr ?hg (N:=2) ?hd (cs:=#[.slice QD Qa.length Qu,.slice QB Qf.length Qv,.slice QK Qb.length Qw]) (t:=122) ?hr ?_;(case hd=>rfl);(case hg=>rfl);(case hr=>first|(go_simp;done)|(go_simp;rfl));intro U7 hg w3 hbox hb;have n0_:=Q0.mk (Qk (by repeat (first|(with_reducible first|exact HB.out|apply Q3|apply Q1|apply Q6)|exact HB.out)) hb);have n1_:=Q0.mk (hbox);have n2_:=Q0.mk ((by rw [hg];exact (Qh (by repeat (first|(with_reducible first|exact HB.out|apply Q3|apply Q1|apply Q6)|exact HB.out))):w.heap.size≤U7));have n3_:=n2_;clear HB;have HB:=n0_;have G6:=n1_;have qIB:=n2_;have qes:=n3_;clear n0_ n1_ n2_ n3_ hb hbox hg;have Kk:w3.cell? ⟨U7,0,none⟩=some (.slice QD Qa.length Qu):=(Q9 G6.out 0).trans rfl;have Kl:w3.cell? ⟨U7,1,none⟩=some (.slice QB Qf.length Qv):=(Q9 G6.out 1).trans rfl;have KD:w3.cell? ⟨U7,2,none⟩=some (.slice QK Qb.length Qw):=(Q9 G6.out 2).trans rfl;have Km:=Q8 G6.out 0;have Kn:=Q8 G6.out 1;have KI:=Q8 G6.out 2))
 go_loopg [11] k (fun kq v11 w' => ∃ (WQ:Int),v11 = .int .i64 WQ∧Q0 (Ye.l0 kq a1 (Qa.length:Int) WQ Qa Qf Qb=some r)∧Q0 (kq≤k)∧Q0 (w'.heap[U7]? = some (.cells #[(.slice QD Qa.length Qu),(.slice QB Qf.length Qv),(.slice QK Qb.length Qw)] 122 (0,0)))∧Q0 (Below w.heap.size w w'))
 case atStart=>exact ⟨(0),(by first|rfl|(simp;done)|(simp [*];done)),H',⟨Nat.le_refl _⟩,⟨by (with_reducible repeat (first|refine Q4 ?_ _|refine Q7 ?_|refine Q2 ?_ _));exact G6.out⟩,⟨by repeat (first|(with_reducible first|exact HB.out|apply Q3|apply Q1|apply Q6|refine Q5 ?_ qes.out)|exact HB.out)⟩⟩
 case round =>
  clear H'
  try clear p2
  try clear Kk
  try clear Kl
  try clear KD
  try clear Km
  try clear Kn
  try clear KI
  obtain ⟨WQ,rfl,HA,HK1,G6,HB⟩:=hrel
  cases gk with
  | zero=>exact absurd HA.out (by simp [Ye.l0])
  | succ k1 =>
   have H:=HA.out
   clear HA
   simp only [Ye.l0] at H
   by_cases c5:WQ<(Qa.length:Int)
   ·
    rw [if_pos c5] at H;have c5b0:decide (WQ<(Qa.length:Int))=true:=decide_eq_true c5;clear c5;have H':=Q0.mk H;clear H;have qcn:wr.cell? ⟨U7,0,none⟩=some (.slice QD Qa.length Qu):=(Q9 G6.out 0).trans rfl;have qco:wr.cell? ⟨U7,1,none⟩=some (.slice QB Qf.length Qv):=(Q9 G6.out 1).trans rfl;have qek:wr.cell? ⟨U7,2,none⟩=some (.slice QK Qb.length Qw):=(Q9 G6.out 2).trans rfl;have qcr:=Q8 G6.out 0;have qcs:=Q8 G6.out 1;have qel:=Q8 G6.out 2
    go_wp2
    go_loopg [18] k1 (fun kq v18 w' => ∃ (JK:Int),v18 = .int .i64 JK∧Q0 (Ye.l1 kq a1 WQ (Qa.length:Int) WQ (Qb.length:Int) JK Qa Qf Qb=some r)∧Q0 (kq≤k1)∧Q0 (w'.heap[U7]? = some (.cells #[(.slice QD Qa.length Qu),(.slice QB Qf.length Qv),(.slice QK Qb.length Qw)] 122 (0,0)))∧Q0 (Below w.heap.size w w'))
    case atStart=>exact ⟨(0),(by first|rfl|(simp;done)|(simp [*];done)),H',⟨Nat.le_refl _⟩,⟨by (with_reducible repeat (first|refine Q4 ?_ _|refine Q7 ?_|refine Q2 ?_ _));exact G6.out⟩,⟨by repeat (first|(with_reducible first|exact HB.out|apply Q3|apply Q1|apply Q6|refine Q5 ?_ qes.out)|exact HB.out)⟩⟩
    case round =>
     clear H';(try clear p2);(try clear c5);(try clear c5b0);(try clear Kk);(try clear Kl);(try clear KD);(try clear qcn);(try clear qco);(try clear qek);(try clear Km);(try clear Kn);(try clear KI);(try clear qcr);(try clear qcs);(try clear qel);(try clear p2);obtain ⟨JK,rfl,HA,HK2,G6,HB⟩:=hrel
     cases gk with
     | zero=>exact absurd HA.out (by simp [Ye.l1])
     | succ k2 =>
      have H:=HA.out;clear HA;simp only [Ye.l1] at H
      by_cases c7:JK<(Qb.length:Int)
      ·
       rw [if_pos c7] at H;have c7b0:decide (JK<(Qb.length:Int))=true:=decide_eq_true c7;clear c7;replace H:=Option.bind_eq_some_iff.mp H;obtain ⟨t227,A80,H⟩:=H;replace H:(if t227≥0 then (some false) else (Ye.l1 k2 a1 WQ (Qa.length:Int) WQ (Qb.length:Int) (wrap64 (JK+1)) Qa Qf Qb))=some r:=H;have A8:=Q0.mk A80;clear A80
       by_cases c9:t227≥0
       ·
        rw [if_pos c9] at H;have c9b0:decide (0≤t227)=true:=decide_eq_true c9;clear c9;obtain rfl:=Option.some.inj H;have ZS:wr.cell? ⟨U7,0,none⟩=some (.slice QD Qa.length Qu):=(Q9 G6.out 0).trans rfl;have ZT:wr.cell? ⟨U7,1,none⟩=some (.slice QB Qf.length Qv):=(Q9 G6.out 1).trans rfl;have ZX:wr.cell? ⟨U7,2,none⟩=some (.slice QK Qb.length Qw):=(Q9 G6.out 2).trans rfl;have ZU:=Q8 G6.out 0;have ZV:=Q8 G6.out 1;have ZY:=Q8 G6.out 2
        go_wp2_with (first|((with_reducible refine QG (f:=85) rfl ?_);refine YF (some 25) rfl rfl Try.func85 (by kernel_rfl) rfl #[.agg #[.slice QD Qa.length Qu,.slice QB Qf.length Qv,.slice QK Qb.length Qw],.int .i64 WQ,.int .i64 JK,.int .i64 a1] rfl (by (try simp only [List.map_toArray,List.map_cons,List.map_nil]);first|done|rfl|(simp only [List.length_drop,List.length_take];rfl)) ?_;(with_reducible refine (Qy.calls k2 _ _ Qa _ _ Qf _ _ Qb WQ JK a1 t227 _ ?side1 ?side2 ?side3 ?side4 ?side5 ?side6 A8.out).mono ?_);(case side1=>repeat (first|exact (Kd.C_below YV.out HB.out)|(with_reducible refine Kd.C_alloc ?_ _)|(with_reducible refine Kd.C_drewN ?_ _)|(with_reducible refine Kd.C_drew ?_)));(case side2=>exact ZA.out);(case side3=>repeat (first|exact (Kd.C_below Zj.out HB.out)|(with_reducible refine Kd.C_alloc ?_ _)|(with_reducible refine Kd.C_drewN ?_ _)|(with_reducible refine Kd.C_drew ?_)));(case side4=>exact ZB.out);(case side5=>repeat (first|exact (Kd.C_below Z5.out HB.out)|(with_reducible refine Kd.C_alloc ?_ _)|(with_reducible refine Kd.C_drewN ?_ _)|(with_reducible refine Kd.C_drew ?_)));(case side6=>exact ZC.out);rintro e w11 ⟨rfl,hb⟩;refine ⟨_,rfl,?_⟩;have n0_:=Q0.mk (Qg (g:=U7) (by (with_reducible repeat (first|refine Q4 ?_ _|refine Q7 ?_|refine Q2 ?_ _));exact G6.out) hb);have n1_:=Q0.mk (Qk (by repeat (first|(with_reducible first|exact HB.out|apply Q3|apply Q1|apply Q6|refine Q5 ?_ qes.out)|exact HB.out)) hb);clear G6 HB;have G6:=n0_;have HB:=n1_;clear n0_ n1_;(try clear hb);(try clear hb2);(try clear hk);(try clear hi)))
        go_ret
        exact ⟨by first|rfl|(simp [Qz,QA]<;>rfl)|(simp [*,Qz,QA]<;>rfl),by repeat (first|(with_reducible first|exact HB.out|apply Q3|apply Q1|apply Q6|refine Q5 ?_ qes.out)|exact HB.out)⟩
       rw [if_neg c9] at H;have c9b0:decide (0≤t227)=false:=decide_eq_false c9;clear c9;have H':=Q0.mk H;clear H;have GX:wr.cell? ⟨U7,0,none⟩=some (.slice QD Qa.length Qu):=(Q9 G6.out 0).trans rfl;have GY:wr.cell? ⟨U7,1,none⟩=some (.slice QB Qf.length Qv):=(Q9 G6.out 1).trans rfl;have Kz:wr.cell? ⟨U7,2,none⟩=some (.slice QK Qb.length Qw):=(Q9 G6.out 2).trans rfl;have K2:=Q8 G6.out 0;have Ka:=Q8 G6.out 1;have KE:=Q8 G6.out 2
       go_wp2_with (first|((with_reducible refine QG (f:=85) rfl ?_);refine YF (some 25) rfl rfl Try.func85 (by kernel_rfl) rfl #[.agg #[.slice QD Qa.length Qu,.slice QB Qf.length Qv,.slice QK Qb.length Qw],.int .i64 WQ,.int .i64 JK,.int .i64 a1] rfl (by (try simp only [List.map_toArray,List.map_cons,List.map_nil]);first|done|rfl|(simp only [List.length_drop,List.length_take];rfl)) ?_;(with_reducible refine (Qy.calls k2 _ _ Qa _ _ Qf _ _ Qb WQ JK a1 t227 _ ?side1 ?side2 ?side3 ?side4 ?side5 ?side6 A8.out).mono ?_);(case side1=>repeat (first|exact (Kd.C_below YV.out HB.out)|(with_reducible refine Kd.C_alloc ?_ _)|(with_reducible refine Kd.C_drewN ?_ _)|(with_reducible refine Kd.C_drew ?_)));(case side2=>exact ZA.out);(case side3=>repeat (first|exact (Kd.C_below Zj.out HB.out)|(with_reducible refine Kd.C_alloc ?_ _)|(with_reducible refine Kd.C_drewN ?_ _)|(with_reducible refine Kd.C_drew ?_)));(case side4=>exact ZB.out);(case side5=>repeat (first|exact (Kd.C_below Z5.out HB.out)|(with_reducible refine Kd.C_alloc ?_ _)|(with_reducible refine Kd.C_drewN ?_ _)|(with_reducible refine Kd.C_drew ?_)));(case side6=>exact ZC.out);rintro e w13 ⟨rfl,hb⟩;refine ⟨_,rfl,?_⟩;have n0_:=Q0.mk (Qg (g:=U7) (by (with_reducible repeat (first|refine Q4 ?_ _|refine Q7 ?_|refine Q2 ?_ _));exact G6.out) hb);have n1_:=Q0.mk (Qk (by repeat (first|(with_reducible first|exact HB.out|apply Q3|apply Q1|apply Q6|refine Q5 ?_ qes.out)|exact HB.out)) hb);clear G6 HB;have G6:=n0_;have HB:=n1_;clear n0_ n1_;(try clear hb);(try clear hb2);(try clear hk);(try clear hi)))
       go_roundg k2
       case measure=>have:=HK1.out;have:=HK2.out;omega
       case rel=>exact ⟨(wrap64 (JK+1)),(by first|rfl|(simp;done)|(simp [*];done)),H',⟨by have:=HK1.out;have:=HK2.out;omega⟩,⟨by (with_reducible repeat (first|refine Q4 ?_ _|refine Q7 ?_|refine Q2 ?_ _));exact G6.out⟩,⟨by repeat (first|(with_reducible first|exact HB.out|apply Q3|apply Q1|apply Q6|refine Q5 ?_ qes.out)|exact HB.out)⟩⟩
      rw [if_neg c7] at H;have c7b0:decide (JK<(Qb.length:Int))=false:=decide_eq_false c7;clear c7;have H':=Q0.mk H;clear H
      go_wp2
      go_roundg k2
      case measure=>have:=HK1.out;have:=HK2.out;omega
      case rel=>exact ⟨(wrap64 (WQ+1)),(by first|rfl|(simp;done)|(simp [*];done)),H',⟨by have:=HK1.out;have:=HK2.out;omega⟩,⟨by (with_reducible repeat (first|refine Q4 ?_ _|refine Q7 ?_|refine Q2 ?_ _));exact G6.out⟩,⟨by repeat (first|(with_reducible first|exact HB.out|apply Q3|apply Q1|apply Q6|refine Q5 ?_ qes.out)|exact HB.out)⟩⟩
   rw [if_neg c5] at H
   have c5b0:decide (WQ<(Qa.length:Int))=false:=decide_eq_false c5
   clear c5
   obtain rfl:=Option.some.inj H
   go_wp2
   go_ret
   exact ⟨by first|rfl|(simp [Qz,QA]<;>rfl)|(simp [*,Qz,QA]<;>rfl),by repeat (first|(with_reducible first|exact HB.out|apply Q3|apply Q1|apply Q6|refine Q5 ?_ qes.out)|exact HB.out)⟩
end
section
attribute [local go_sem] Yv Yx YJ YK Yl Ym Yw Yy
def ZH.l0:Nat→Int→Int→List (S39)→List Int→List (List (List Int))→Option (Int × Int)
 | 0,_,_,_,_,_=>none
 | k+1,x6,x7,qjm,qjn,qjo=>if (wrap64 (x7-x6))>1 then ((Ye.f k qjm qjn qjo (wrap64 (Int.tdiv (wrap64 (x6+x7)) 2))).bind fun quq=>(if quq=true then (ZH.l0 k (wrap64 (Int.tdiv (wrap64 (x6+x7)) 2)) x7 qjm qjn qjo) else (ZH.l0 k x6 (wrap64 (Int.tdiv (wrap64 (x6+x7)) 2)) qjm qjn qjo))) else (some (x6,0))
def ZH.f (k:Nat) (Qa:List (S39)) (Qf:List Int) (Qb:List (List (List Int))):Option (Int × Int):=(Qj.f k Qa Qf Qb).bind fun t229=>(if t229=0 then ((Ye.f k Qa Qf Qb 0).bind fun qkU=>(if qkU=true then (ZH.l0 k 0 10001 Qa Qf Qb) else (some (0,4)))) else (some (0,t229)))
set_option maxHeartbeats 8000000 in
set_option maxRecDepth 100000 in
theorem ZH.calls (k:Nat) (QD:Option Addr) (Qu:Nat) (Qa:List (S39)) (QB:Option Addr) (Qv:Nat) (Qf:List Int) (QK:Option Addr) (Qw:Nat) (Qb:List (List (List Int))) (r1:Int) (r2:Int) (w:World) (Gk:Kd.C k39 w QD Qa.length Qa) (Gy:Qa.length≤Qu) (Gl:Kd.C (Kd.int .i64) w QB Qf.length Qf) (Gz:Qf.length≤Qv) (Gm:Kd.C (Kd.slice 37 (Kd.slice 3 (Kd.int .i64))) w QK Qb.length Qb) (GA:Qb.length≤Qw) (h:ZH.f k Qa Qf Qb=some (r1,r2)) :
  Calls Try.prog 28 #[.agg #[.slice QD Qa.length Qu,.slice QB Qf.length Qv,.slice QK Qb.length Qw]] w fun e w'=>e = .returned (.tuple #[.int .i64 r1,.int .i64 r2])∧Below w.heap.size w w':=by
 have qoO:=Try.underlying47
 have qq3:=Try.underlying122
 have YV:=Q0.mk Gk
 have ZA:=Q0.mk Gy
 clear Gk Gy
 have Zj:=Q0.mk Gl
 have ZB:=Q0.mk Gz
 clear Gl Gz
 have Z5:=Q0.mk Gm
 have ZC:=Q0.mk GA
 clear Gm GA
 have HB:=Q0.mk (Below.refl w.heap.size w)
 have H:((Qj.f k Qa Qf Qb).bind fun t229=>(if t229=0 then ((Ye.f k Qa Qf Qb 0).bind fun qkU=>(if qkU=true then (ZH.l0 k 0 10001 Qa Qf Qb) else (some (0,4)))) else (some (0,t229))))=some (r1,r2):=h
 clear h
 replace H:=Option.bind_eq_some_iff.mp H
 obtain ⟨t229,A20,H⟩:=H
 replace H:(if t229=0 then ((Ye.f k Qa Qf Qb 0).bind fun qkU=>(if qkU=true then (ZH.l0 k 0 10001 Qa Qf Qb) else (some (0,4)))) else (some (0,t229)))=some (r1,r2):=H
 have A2:=Q0.mk A20
 clear A20
 by_cases c3:t229=0
 ·
  rw [if_pos c3] at H
  have c3b0:(t229==0)=true:=beq_iff_eq.mpr c3
  have c3b1:(t229 != 0)=false:=bne_eq_false_iff_eq.mpr c3
  clear c3
  replace H:=Option.bind_eq_some_iff.mp H
  obtain ⟨qkU,A40,H⟩:=H
  replace H:(if qkU=true then (ZH.l0 k 0 10001 Qa Qf Qb) else (some (0,4)))=some (r1,r2):=H
  have A4:=Q0.mk A40
  clear A40
  by_cases c5:qkU=true
  ·
   subst c5
   have H1:(ZH.l0 k 0 10001 Qa Qf Qb)=some (r1,r2):=by rw [if_pos rfl] at H;exact H
   clear H
   have H:=H1
   clear H1
   have H':=Q0.mk H
   clear H
   go_enter Try.func28,Try.ntmps28
   go_wp2_with (first|((with_reducible refine QZ (N:=1) rfl ?_);refine Yr ?hg (N:=1) ?hd (cs:=#[.slice QD Qa.length Qu,.slice QB Qf.length Qv,.slice QK Qb.length Qw]) (t:=47) ?hr ?_;(case hd=>rfl);(case hg=>rfl);(case hr=>first|(go_simp;done)|(go_simp;rfl));intro G2 hg w6 hbox hb;have n0_:=Q0.mk (Qk (by repeat (first|(with_reducible first|exact HB.out|apply Q3|apply Q1|apply Q6)|exact HB.out)) hb);have n1_:=Q0.mk (hbox);have n2_:=Q0.mk ((by rw [hg];exact (Qh (by repeat (first|(with_reducible first|exact HB.out|apply Q3|apply Q1|apply Q6)|exact HB.out))):w.heap.size≤G2));have n3_:=n2_;clear HB;have HB:=n0_;have Zd:=n1_;have quF:=n2_;have Wt:=n3_;clear n0_ n1_ n2_ n3_ hb hbox hg;have qww:w6.cell? ⟨G2,0,none⟩=some (.slice QD Qa.length Qu):=(Q9 Zd.out 0).trans rfl;have qwx:w6.cell? ⟨G2,1,none⟩=some (.slice QB Qf.length Qv):=(Q9 Zd.out 1).trans rfl;have qwy:w6.cell? ⟨G2,2,none⟩=some (.slice QK Qb.length Qw):=(Q9 Zd.out 2).trans rfl;have qwz:=Q8 Zd.out 0;have qwA:=Q8 Zd.out 1;have qwB:=Q8 Zd.out 2)|((with_reducible refine QG (f:=30) rfl ?_);refine YF (some 10) rfl rfl Try.func30 (by kernel_rfl) rfl #[.agg #[.slice QD Qa.length Qu,.slice QB Qf.length Qv,.slice QK Qb.length Qw]] rfl (by (try simp only [List.map_toArray,List.map_cons,List.map_nil]);first|done|rfl|(simp only [List.length_drop,List.length_take];rfl)) ?_;(with_reducible refine (Qj.calls k _ _ Qa _ _ Qf _ _ Qb t229 _ ?side1 ?side2 ?side3 ?side4 ?side5 ?side6 A2.out).mono ?_);(case side1=>repeat (first|exact (Kd.C_below YV.out HB.out)|(with_reducible refine Kd.C_alloc ?_ _)|(with_reducible refine Kd.C_drewN ?_ _)|(with_reducible refine Kd.C_drew ?_)));(case side2=>exact ZA.out);(case side3=>repeat (first|exact (Kd.C_below Zj.out HB.out)|(with_reducible refine Kd.C_alloc ?_ _)|(with_reducible refine Kd.C_drewN ?_ _)|(with_reducible refine Kd.C_drew ?_)));(case side4=>exact ZB.out);(case side5=>repeat (first|exact (Kd.C_below Z5.out HB.out)|(with_reducible refine Kd.C_alloc ?_ _)|(with_reducible refine Kd.C_drewN ?_ _)|(with_reducible refine Kd.C_drew ?_)));(case side6=>exact ZC.out);rintro e w8 ⟨rfl,hb⟩;refine ⟨_,rfl,?_⟩;have n0_:=Q0.mk (Qg (g:=G2) (by (with_reducible repeat (first|refine Q4 ?_ _|refine Q7 ?_|refine Q2 ?_ _));exact Zd.out) hb);have n1_:=Q0.mk (Qk (by repeat (first|(with_reducible first|exact HB.out|apply Q3|apply Q1|apply Q6|refine Q5 ?_ Wt.out)|exact HB.out)) hb);clear Zd HB;have Zd:=n0_;have HB:=n1_;clear n0_ n1_;(try clear hb);(try clear hb2);(try clear hk);(try clear hi);have Oz:w8.cell? ⟨G2,0,none⟩=some (.slice QD Qa.length Qu):=(Q9 Zd.out 0).trans rfl;have OA:w8.cell? ⟨G2,1,none⟩=some (.slice QB Qf.length Qv):=(Q9 Zd.out 1).trans rfl;have OB:w8.cell? ⟨G2,2,none⟩=some (.slice QK Qb.length Qw):=(Q9 Zd.out 2).trans rfl;have OC:=Q8 Zd.out 0;have OD:=Q8 Zd.out 1;have OE:=Q8 Zd.out 2)|((with_reducible refine QZ (N:=18) rfl ?_);refine qcX (some 18) rfl rfl Try.func82 (by kernel_rfl) rfl #[.agg #[.slice QD Qa.length Qu,.slice QB Qf.length Qv,.slice QK Qb.length Qw],.int .i64 0] 17 _ _ rfl rfl (by (try simp only [List.map_toArray,List.map_cons,List.map_nil]);first|done|rfl|(simp only [List.length_drop,List.length_take];rfl)) ?_;(with_reducible refine (Ye.calls k _ _ Qa _ _ Qf _ _ Qb 0 true _ ?side1 ?side2 ?side3 ?side4 ?side5 ?side6 A4.out).mono ?_);(case side1=>repeat (first|exact (Kd.C_below YV.out HB.out)|(with_reducible refine Kd.C_alloc ?_ _)|(with_reducible refine Kd.C_drewN ?_ _)|(with_reducible refine Kd.C_drew ?_)));(case side2=>exact ZA.out);(case side3=>repeat (first|exact (Kd.C_below Zj.out HB.out)|(with_reducible refine Kd.C_alloc ?_ _)|(with_reducible refine Kd.C_drewN ?_ _)|(with_reducible refine Kd.C_drew ?_)));(case side4=>exact ZB.out);(case side5=>repeat (first|exact (Kd.C_below Z5.out HB.out)|(with_reducible refine Kd.C_alloc ?_ _)|(with_reducible refine Kd.C_drewN ?_ _)|(with_reducible refine Kd.C_drew ?_)));(case side6=>exact ZC.out);rintro e w10 ⟨rfl,hb⟩;refine ⟨_,rfl,?_⟩;have n0_:=Q0.mk (Qg (g:=G2) (by (with_reducible repeat (first|refine Q4 ?_ _|refine Q7 ?_|refine Q2 ?_ _));exact Zd.out) hb);have n1_:=Q0.mk (Qk (by repeat (first|(with_reducible first|exact HB.out|apply Q3|apply Q1|apply Q6|refine Q5 ?_ Wt.out)|exact HB.out)) hb);clear Zd HB;have Zd:=n0_;have HB:=n1_;clear n0_ n1_;(try clear hb);(try clear hb2);(try clear hk);(try clear hi)))
   go_loopg [6,7] k (fun kq v6 v7 w' => ∃ (Un:Int) (qaM:Int),v6 = .int .i64 Un∧v7 = .int .i64 qaM∧Q0 (ZH.l0 kq Un qaM Qa Qf Qb=some (r1,r2))∧Q0 (kq≤k)∧Q0 (w'.heap[G2]? = some (.cells #[(.slice QD Qa.length Qu),(.slice QB Qf.length Qv),(.slice QK Qb.length Qw)] 47 (0,0)))∧Q0 (Below w.heap.size w w'))
   case atStart=>exact ⟨(0),(10001),(by first|rfl|(simp;done)|(simp [*];done)),(by first|rfl|(simp;done)|(simp [*];done)),H',⟨Nat.le_refl _⟩,⟨by (with_reducible repeat (first|refine Q4 ?_ _|refine Q7 ?_|refine Q2 ?_ _));exact Zd.out⟩,⟨by repeat (first|(with_reducible first|exact HB.out|apply Q3|apply Q1|apply Q6|refine Q5 ?_ Wt.out)|exact HB.out)⟩⟩
   case round =>
    clear H';(try clear c2);(try clear p2);(try clear c3);(try clear c3b0);(try clear c3b1);(try clear c5);(try clear c8);(try clear qww);(try clear qwx);(try clear qwy);(try clear Oz);(try clear OA);(try clear OB);(try clear qwz);(try clear qwA);(try clear qwB);(try clear OC);(try clear OD);(try clear OE);obtain ⟨Un,qaM,rfl,rfl,HA,HK1,Zd,HB⟩:=hrel
    cases gk with
    | zero=>exact absurd HA.out (by simp [ZH.l0])
    | succ k1 =>
     have H:=HA.out;clear HA;simp only [ZH.l0] at H
     by_cases c11:(wrap64 (qaM-Un))>1
     ·
      rw [if_pos c11] at H;have c11b0:decide (1<(wrap64 (qaM-Un)))=true:=decide_eq_true c11;clear c11;replace H:=Option.bind_eq_some_iff.mp H;obtain ⟨quq,qfZ,H⟩:=H;replace H:(if quq=true then (ZH.l0 k1 (wrap64 (Int.tdiv (wrap64 (Un+qaM)) 2)) qaM Qa Qf Qb) else (ZH.l0 k1 Un (wrap64 (Int.tdiv (wrap64 (Un+qaM)) 2)) Qa Qf Qb))=some (r1,r2):=H;have A12:=Q0.mk qfZ;clear qfZ
      by_cases c13:quq=true
      ·
       subst c13
       have H1:(ZH.l0 k1 (wrap64 (Int.tdiv (wrap64 (Un+qaM)) 2)) qaM Qa Qf Qb)=some (r1,r2):=by rw [if_pos rfl] at H;exact H
       clear H;have H:=H1;clear H1;have H':=Q0.mk H;clear H;have X3:wr.cell? ⟨G2,0,none⟩=some (.slice QD Qa.length Qu):=(Q9 Zd.out 0).trans rfl;have X4:wr.cell? ⟨G2,1,none⟩=some (.slice QB Qf.length Qv):=(Q9 Zd.out 1).trans rfl;have X5:wr.cell? ⟨G2,2,none⟩=some (.slice QK Qb.length Qw):=(Q9 Zd.out 2).trans rfl;have X8:=Q8 Zd.out 0;have X9:=Q8 Zd.out 1;have Xa:=Q8 Zd.out 2
       go_wp2_with (first|((with_reducible refine QZ (N:=30) rfl ?_);refine qcX (some 30) rfl rfl Try.func82 (by kernel_rfl) rfl #[.agg #[.slice QD Qa.length Qu,.slice QB Qf.length Qv,.slice QK Qb.length Qw],.int .i64 (wrap64 (Int.tdiv (wrap64 (Un+qaM)) 2))] 28 _ _ rfl rfl (by (try simp only [List.map_toArray,List.map_cons,List.map_nil]);first|done|rfl|(simp only [List.length_drop,List.length_take];rfl)) ?_;(with_reducible refine (Ye.calls k1 _ _ Qa _ _ Qf _ _ Qb (wrap64 (Int.tdiv (wrap64 (Un+qaM)) 2)) true _ ?side1 ?side2 ?side3 ?side4 ?side5 ?side6 A12.out).mono ?_);(case side1=>repeat (first|exact (Kd.C_below YV.out HB.out)|(with_reducible refine Kd.C_alloc ?_ _)|(with_reducible refine Kd.C_drewN ?_ _)|(with_reducible refine Kd.C_drew ?_)));(case side2=>exact ZA.out);(case side3=>repeat (first|exact (Kd.C_below Zj.out HB.out)|(with_reducible refine Kd.C_alloc ?_ _)|(with_reducible refine Kd.C_drewN ?_ _)|(with_reducible refine Kd.C_drew ?_)));(case side4=>exact ZB.out);(case side5=>repeat (first|exact (Kd.C_below Z5.out HB.out)|(with_reducible refine Kd.C_alloc ?_ _)|(with_reducible refine Kd.C_drewN ?_ _)|(with_reducible refine Kd.C_drew ?_)));(case side6=>exact ZC.out);rintro e w15 ⟨rfl,hb⟩;refine ⟨_,rfl,?_⟩;have n0_:=Q0.mk (Qg (g:=G2) (by (with_reducible repeat (first|refine Q4 ?_ _|refine Q7 ?_|refine Q2 ?_ _));exact Zd.out) hb);have n1_:=Q0.mk (Qk (by repeat (first|(with_reducible first|exact HB.out|apply Q3|apply Q1|apply Q6|refine Q5 ?_ Wt.out)|exact HB.out)) hb);clear Zd HB;have Zd:=n0_;have HB:=n1_;clear n0_ n1_;(try clear hb);(try clear hb2);(try clear hk);(try clear hi)))
       go_roundg k1
       case measure=>have:=HK1.out;omega
       case rel=>exact ⟨(wrap64 (Int.tdiv (wrap64 (Un+qaM)) 2)),(qaM),(by first|rfl|(simp;done)|(simp [*];done)),(by first|rfl|(simp;done)|(simp [*];done)),H',⟨by have:=HK1.out;omega⟩,⟨by (with_reducible repeat (first|refine Q4 ?_ _|refine Q7 ?_|refine Q2 ?_ _));exact Zd.out⟩,⟨by repeat (first|(with_reducible first|exact HB.out|apply Q3|apply Q1|apply Q6|refine Q5 ?_ Wt.out)|exact HB.out)⟩⟩
      replace c13:=Bool.eq_false_iff.mpr c13;subst c13
      have H1:(ZH.l0 k1 Un (wrap64 (Int.tdiv (wrap64 (Un+qaM)) 2)) Qa Qf Qb)=some (r1,r2):=by rw [if_neg (show ¬ (false=true) by decide)] at H;exact H
      clear H;have H:=H1;clear H1;have H':=Q0.mk H;clear H;have OR:wr.cell? ⟨G2,0,none⟩=some (.slice QD Qa.length Qu):=(Q9 Zd.out 0).trans rfl;have OS:wr.cell? ⟨G2,1,none⟩=some (.slice QB Qf.length Qv):=(Q9 Zd.out 1).trans rfl;have OT:wr.cell? ⟨G2,2,none⟩=some (.slice QK Qb.length Qw):=(Q9 Zd.out 2).trans rfl;have OU:=Q8 Zd.out 0;have OV:=Q8 Zd.out 1;have OW:=Q8 Zd.out 2
      go_wp2_with (first|((with_reducible refine QZ (N:=30) rfl ?_);refine qcX (some 30) rfl rfl Try.func82 (by kernel_rfl) rfl #[.agg #[.slice QD Qa.length Qu,.slice QB Qf.length Qv,.slice QK Qb.length Qw],.int .i64 (wrap64 (Int.tdiv (wrap64 (Un+qaM)) 2))] 28 _ _ rfl rfl (by (try simp only [List.map_toArray,List.map_cons,List.map_nil]);first|done|rfl|(simp only [List.length_drop,List.length_take];rfl)) ?_;(with_reducible refine (Ye.calls k1 _ _ Qa _ _ Qf _ _ Qb (wrap64 (Int.tdiv (wrap64 (Un+qaM)) 2)) false _ ?side1 ?side2 ?side3 ?side4 ?side5 ?side6 A12.out).mono ?_);(case side1=>repeat (first|exact (Kd.C_below YV.out HB.out)|(with_reducible refine Kd.C_alloc ?_ _)|(with_reducible refine Kd.C_drewN ?_ _)|(with_reducible refine Kd.C_drew ?_)));(case side2=>exact ZA.out);(case side3=>repeat (first|exact (Kd.C_below Zj.out HB.out)|(with_reducible refine Kd.C_alloc ?_ _)|(with_reducible refine Kd.C_drewN ?_ _)|(with_reducible refine Kd.C_drew ?_)));(case side4=>exact ZB.out);(case side5=>repeat (first|exact (Kd.C_below Z5.out HB.out)|(with_reducible refine Kd.C_alloc ?_ _)|(with_reducible refine Kd.C_drewN ?_ _)|(with_reducible refine Kd.C_drew ?_)));(case side6=>exact ZC.out);rintro e w17 ⟨rfl,hb⟩;refine ⟨_,rfl,?_⟩;have n0_:=Q0.mk (Qg (g:=G2) (by (with_reducible repeat (first|refine Q4 ?_ _|refine Q7 ?_|refine Q2 ?_ _));exact Zd.out) hb);have n1_:=Q0.mk (Qk (by repeat (first|(with_reducible first|exact HB.out|apply Q3|apply Q1|apply Q6|refine Q5 ?_ Wt.out)|exact HB.out)) hb);clear Zd HB;have Zd:=n0_;have HB:=n1_;clear n0_ n1_;(try clear hb);(try clear hb2);(try clear hk);(try clear hi)))
      go_roundg k1
      case measure=>have:=HK1.out;omega
      case rel=>exact ⟨(Un),(wrap64 (Int.tdiv (wrap64 (Un+qaM)) 2)),(by first|rfl|(simp;done)|(simp [*];done)),(by first|rfl|(simp;done)|(simp [*];done)),H',⟨by have:=HK1.out;omega⟩,⟨by (with_reducible repeat (first|refine Q4 ?_ _|refine Q7 ?_|refine Q2 ?_ _));exact Zd.out⟩,⟨by repeat (first|(with_reducible first|exact HB.out|apply Q3|apply Q1|apply Q6|refine Q5 ?_ Wt.out)|exact HB.out)⟩⟩
     rw [if_neg c11] at H;have c11b0:decide (1<(wrap64 (qaM-Un)))=false:=decide_eq_false c11;clear c11;simp only [Option.some.injEq,Prod.mk.injEq] at H;obtain ⟨rfl,rfl⟩:=H
     go_wp2
     go_ret2
     exact ⟨by first|rfl|(simp [Qz,QA]<;>rfl)|(simp [*,Qz,QA]<;>rfl),by repeat (first|(with_reducible first|exact HB.out|apply Q3|apply Q1|apply Q6|refine Q5 ?_ Wt.out)|exact HB.out)⟩
  replace c5:=Bool.eq_false_iff.mpr c5
  subst c5
  have H1:(some (0,4))=some (r1,r2):=by rw [if_neg (show ¬ (false=true) by decide)] at H;exact H
  clear H
  have H:=H1
  clear H1
  simp only [Option.some.injEq,Prod.mk.injEq] at H
  obtain ⟨rfl,rfl⟩:=H
  go_enter Try.func28,Try.ntmps28
  go_wp2_with (first|((with_reducible refine QZ (N:=1) rfl ?_);refine Yr ?hg (N:=1) ?hd (cs:=#[.slice QD Qa.length Qu,.slice QB Qf.length Qv,.slice QK Qb.length Qw]) (t:=47) ?hr ?_;(case hd=>rfl);(case hg=>rfl);(case hr=>first|(go_simp;done)|(go_simp;rfl));intro G2 hg w18 hbox hb;have n0_:=Q0.mk (Qk (by repeat (first|(with_reducible first|exact HB.out|apply Q3|apply Q1|apply Q6)|exact HB.out)) hb);have n1_:=Q0.mk (hbox);have n2_:=Q0.mk ((by rw [hg];exact (Qh (by repeat (first|(with_reducible first|exact HB.out|apply Q3|apply Q1|apply Q6)|exact HB.out))):w.heap.size≤G2));have n3_:=n2_;clear HB;have HB:=n0_;have Zd:=n1_;have quF:=n2_;have Wt:=n3_;clear n0_ n1_ n2_ n3_ hb hbox hg;have XS:w18.cell? ⟨G2,0,none⟩=some (.slice QD Qa.length Qu):=(Q9 Zd.out 0).trans rfl;have XT:w18.cell? ⟨G2,1,none⟩=some (.slice QB Qf.length Qv):=(Q9 Zd.out 1).trans rfl;have XU:w18.cell? ⟨G2,2,none⟩=some (.slice QK Qb.length Qw):=(Q9 Zd.out 2).trans rfl;have qag:=Q8 Zd.out 0;have qah:=Q8 Zd.out 1;have qai:=Q8 Zd.out 2)|((with_reducible refine QG (f:=30) rfl ?_);refine YF (some 10) rfl rfl Try.func30 (by kernel_rfl) rfl #[.agg #[.slice QD Qa.length Qu,.slice QB Qf.length Qv,.slice QK Qb.length Qw]] rfl (by (try simp only [List.map_toArray,List.map_cons,List.map_nil]);first|done|rfl|(simp only [List.length_drop,List.length_take];rfl)) ?_;(with_reducible refine (Qj.calls k _ _ Qa _ _ Qf _ _ Qb t229 _ ?side1 ?side2 ?side3 ?side4 ?side5 ?side6 A2.out).mono ?_);(case side1=>repeat (first|exact (Kd.C_below YV.out HB.out)|(with_reducible refine Kd.C_alloc ?_ _)|(with_reducible refine Kd.C_drewN ?_ _)|(with_reducible refine Kd.C_drew ?_)));(case side2=>exact ZA.out);(case side3=>repeat (first|exact (Kd.C_below Zj.out HB.out)|(with_reducible refine Kd.C_alloc ?_ _)|(with_reducible refine Kd.C_drewN ?_ _)|(with_reducible refine Kd.C_drew ?_)));(case side4=>exact ZB.out);(case side5=>repeat (first|exact (Kd.C_below Z5.out HB.out)|(with_reducible refine Kd.C_alloc ?_ _)|(with_reducible refine Kd.C_drewN ?_ _)|(with_reducible refine Kd.C_drew ?_)));(case side6=>exact ZC.out);rintro e w20 ⟨rfl,hb⟩;refine ⟨_,rfl,?_⟩;have n0_:=Q0.mk (Qg (g:=G2) (by (with_reducible repeat (first|refine Q4 ?_ _|refine Q7 ?_|refine Q2 ?_ _));exact Zd.out) hb);have n1_:=Q0.mk (Qk (by repeat (first|(with_reducible first|exact HB.out|apply Q3|apply Q1|apply Q6|refine Q5 ?_ Wt.out)|exact HB.out)) hb);clear Zd HB;have Zd:=n0_;have HB:=n1_;clear n0_ n1_;(try clear hb);(try clear hb2);(try clear hk);(try clear hi);have W5:w20.cell? ⟨G2,0,none⟩=some (.slice QD Qa.length Qu):=(Q9 Zd.out 0).trans rfl;have W6:w20.cell? ⟨G2,1,none⟩=some (.slice QB Qf.length Qv):=(Q9 Zd.out 1).trans rfl;have W7:w20.cell? ⟨G2,2,none⟩=some (.slice QK Qb.length Qw):=(Q9 Zd.out 2).trans rfl;have Wc:=Q8 Zd.out 0;have Wd:=Q8 Zd.out 1;have Wg:=Q8 Zd.out 2)|((with_reducible refine QZ (N:=18) rfl ?_);refine qcX (some 18) rfl rfl Try.func82 (by kernel_rfl) rfl #[.agg #[.slice QD Qa.length Qu,.slice QB Qf.length Qv,.slice QK Qb.length Qw],.int .i64 0] 17 _ _ rfl rfl (by (try simp only [List.map_toArray,List.map_cons,List.map_nil]);first|done|rfl|(simp only [List.length_drop,List.length_take];rfl)) ?_;(with_reducible refine (Ye.calls k _ _ Qa _ _ Qf _ _ Qb 0 false _ ?side1 ?side2 ?side3 ?side4 ?side5 ?side6 A4.out).mono ?_);(case side1=>repeat (first|exact (Kd.C_below YV.out HB.out)|(with_reducible refine Kd.C_alloc ?_ _)|(with_reducible refine Kd.C_drewN ?_ _)|(with_reducible refine Kd.C_drew ?_)));(case side2=>exact ZA.out);(case side3=>repeat (first|exact (Kd.C_below Zj.out HB.out)|(with_reducible refine Kd.C_alloc ?_ _)|(with_reducible refine Kd.C_drewN ?_ _)|(with_reducible refine Kd.C_drew ?_)));(case side4=>exact ZB.out);(case side5=>repeat (first|exact (Kd.C_below Z5.out HB.out)|(with_reducible refine Kd.C_alloc ?_ _)|(with_reducible refine Kd.C_drewN ?_ _)|(with_reducible refine Kd.C_drew ?_)));(case side6=>exact ZC.out);rintro e w22 ⟨rfl,hb⟩;refine ⟨_,rfl,?_⟩;have n0_:=Q0.mk (Qg (g:=G2) (by (with_reducible repeat (first|refine Q4 ?_ _|refine Q7 ?_|refine Q2 ?_ _));exact Zd.out) hb);have n1_:=Q0.mk (Qk (by repeat (first|(with_reducible first|exact HB.out|apply Q3|apply Q1|apply Q6|refine Q5 ?_ Wt.out)|exact HB.out)) hb);clear Zd HB;have Zd:=n0_;have HB:=n1_;clear n0_ n1_;(try clear hb);(try clear hb2);(try clear hk);(try clear hi)))
  go_ret2
  exact ⟨by first|rfl|(simp [Qz,QA]<;>rfl)|(simp [*,Qz,QA]<;>rfl),by repeat (first|(with_reducible first|exact HB.out|apply Q3|apply Q1|apply Q6|refine Q5 ?_ Wt.out)|exact HB.out)⟩
 rw [if_neg c3] at H
 have c3b0:(t229==0)=false:=beq_eq_false_iff_ne.mpr c3
 have c3b1:(t229 != 0)=true:=bne_iff_ne.mpr c3
 simp only [Option.some.injEq,Prod.mk.injEq] at H
 obtain ⟨rfl,rfl⟩:=H
 go_enter Try.func28,Try.ntmps28
 go_wp2_with (first|((with_reducible refine QZ (N:=1) rfl ?_);refine Yr ?hg (N:=1) ?hd (cs:=#[.slice QD Qa.length Qu,.slice QB Qf.length Qv,.slice QK Qb.length Qw]) (t:=47) ?hr ?_;(case hd=>rfl);(case hg=>rfl);(case hr=>first|(go_simp;done)|(go_simp;rfl));intro G2 hg w23 hbox hb;have n0_:=Q0.mk (Qk (by repeat (first|(with_reducible first|exact HB.out|apply Q3|apply Q1|apply Q6)|exact HB.out)) hb);have n1_:=Q0.mk (hbox);have n2_:=Q0.mk ((by rw [hg];exact (Qh (by repeat (first|(with_reducible first|exact HB.out|apply Q3|apply Q1|apply Q6)|exact HB.out))):w.heap.size≤G2));have n3_:=n2_;clear HB;have HB:=n0_;have Zd:=n1_;have quF:=n2_;have Wt:=n3_;clear n0_ n1_ n2_ n3_ hb hbox hg;have qBm:w23.cell? ⟨G2,0,none⟩=some (.slice QD Qa.length Qu):=(Q9 Zd.out 0).trans rfl;have qBn:w23.cell? ⟨G2,1,none⟩=some (.slice QB Qf.length Qv):=(Q9 Zd.out 1).trans rfl;have qBo:w23.cell? ⟨G2,2,none⟩=some (.slice QK Qb.length Qw):=(Q9 Zd.out 2).trans rfl;have qDc:=Q8 Zd.out 0;have qDd:=Q8 Zd.out 1;have qDe:=Q8 Zd.out 2)|((with_reducible refine QG (f:=30) rfl ?_);refine YF (some 10) rfl rfl Try.func30 (by kernel_rfl) rfl #[.agg #[.slice QD Qa.length Qu,.slice QB Qf.length Qv,.slice QK Qb.length Qw]] rfl (by (try simp only [List.map_toArray,List.map_cons,List.map_nil]);first|done|rfl|(simp only [List.length_drop,List.length_take];rfl)) ?_;(with_reducible refine (Qj.calls k _ _ Qa _ _ Qf _ _ Qb t229 _ ?side1 ?side2 ?side3 ?side4 ?side5 ?side6 A2.out).mono ?_);(case side1=>repeat (first|exact (Kd.C_below YV.out HB.out)|(with_reducible refine Kd.C_alloc ?_ _)|(with_reducible refine Kd.C_drewN ?_ _)|(with_reducible refine Kd.C_drew ?_)));(case side2=>exact ZA.out);(case side3=>repeat (first|exact (Kd.C_below Zj.out HB.out)|(with_reducible refine Kd.C_alloc ?_ _)|(with_reducible refine Kd.C_drewN ?_ _)|(with_reducible refine Kd.C_drew ?_)));(case side4=>exact ZB.out);(case side5=>repeat (first|exact (Kd.C_below Z5.out HB.out)|(with_reducible refine Kd.C_alloc ?_ _)|(with_reducible refine Kd.C_drewN ?_ _)|(with_reducible refine Kd.C_drew ?_)));(case side6=>exact ZC.out);rintro e w25 ⟨rfl,hb⟩;refine ⟨_,rfl,?_⟩;have n0_:=Q0.mk (Qg (g:=G2) (by (with_reducible repeat (first|refine Q4 ?_ _|refine Q7 ?_|refine Q2 ?_ _));exact Zd.out) hb);have n1_:=Q0.mk (Qk (by repeat (first|(with_reducible first|exact HB.out|apply Q3|apply Q1|apply Q6|refine Q5 ?_ Wt.out)|exact HB.out)) hb);clear Zd HB;have Zd:=n0_;have HB:=n1_;clear n0_ n1_;(try clear hb);(try clear hb2);(try clear hk);(try clear hi)))
 go_ret2
 exact ⟨by first|rfl|(simp [Qz,QA]<;>rfl)|(simp [*,Qz,QA]<;>rfl),by repeat (first|(with_reducible first|exact HB.out|apply Q3|apply Q1|apply Q6|refine Q5 ?_ Wt.out)|exact HB.out)⟩
end
section
attribute [local go_sem] Yv Yx YJ YK Yl Ym Yw Yy
def QN.f (a0:Int) (a1:Int):Option (Int × Int):=some (a0,a1)
set_option maxHeartbeats 8000000 in
set_option maxRecDepth 100000 in
theorem QN.calls (a0:Int) (a1:Int) (r1:Int) (r2:Int) (w:World) (h:QN.f a0 a1=some (r1,r2)) :
  Calls Try.prog 43 #[.int .i64 a0,.int .i64 a1] w fun e w'=>e = .returned (.agg #[.int .i64 r1,.int .i64 r2])∧Below w.heap.size w w':=by
 have qeK:=Try.underlying25
 have HB:=Q0.mk (Below.refl w.heap.size w)
 have H:(some (a0,a1))=some (r1,r2):=h
 clear h
 simp only [Option.some.injEq,Prod.mk.injEq] at H
 obtain ⟨rfl,rfl⟩:=H
 go_enter Try.func43,Try.ntmps43
 go_wp2_with (first|((with_reducible refine QZ (N:=4) rfl ?_);refine Yr ?hg (N:=4) ?hd (cs:=#[.int .i64 0,.int .i64 0]) (t:=25) ?hr ?_;(case hd=>rfl);(case hg=>rfl);(case hr=>first|(go_simp;done)|(go_simp;rfl));intro qj6 hg w3 hbox hb;have n0_:=Q0.mk (Qk (by repeat (first|(with_reducible first|exact HB.out|apply Q3|apply Q1|apply Q6)|exact HB.out)) hb);have n1_:=Q0.mk (hbox);have n2_:=Q0.mk ((by rw [hg];exact (Qh (by repeat (first|(with_reducible first|exact HB.out|apply Q3|apply Q1|apply Q6)|exact HB.out))):w.heap.size≤qj6));have n3_:=n2_;clear HB;have HB:=n0_;have qjI:=n1_;have qID:=n2_;have qxS:=n3_;clear n0_ n1_ n2_ n3_ hb hbox hg;have Kk:w3.cell? ⟨qj6,0,none⟩=some (.int .i64 0):=(Q9 qjI.out 0).trans rfl;have Kl:w3.cell? ⟨qj6,1,none⟩=some (.int .i64 0):=(Q9 qjI.out 1).trans rfl;have Km:=Q8 qjI.out 0;have Kn:=Q8 qjI.out 1))
 refine bodyPost_ret (results_cell_row rfl _ _ qj6 25 #[.int .i64 a0,.int .i64 a1] (0,0) _ rfl (by (with_reducible repeat (first|refine Q4 ?_ _|refine Q7 ?_|refine Q2 ?_ _));refine QI (cs:=#[.int .i64 a0,.int .i64 0]) ?_ 1 _ rfl;(with_reducible repeat (first|refine Q4 ?_ _|refine Q7 ?_|refine Q2 ?_ _));refine QI (cs:=#[.int .i64 0,.int .i64 0]) ?_ 0 _ rfl;(with_reducible repeat (first|refine Q4 ?_ _|refine Q7 ?_|refine Q2 ?_ _));exact qjI.out) Try.underlying25 rfl (by kernel_rfl)) rfl ?_
 exact ⟨by first|rfl|(simp [Qz,QA]<;>rfl)|(simp [*,Qz,QA]<;>rfl),by repeat (first|(with_reducible first|exact HB.out|apply Q3|apply Q1|apply Q6|refine Q5 ?_ qxS.out)|exact HB.out)⟩
end
section
attribute [local go_sem] Yv Yx YJ YK Yl Ym Yw Yy
def JC.f  : Option (List Int × List Int × List Int × Int × Int):=some ((([100,50,20]:List Int)),(([800,700,500]:List Int)),(([0,1,2]:List Int)),60,1)
set_option maxHeartbeats 8000000 in
set_option maxRecDepth 100000 in
theorem JC.calls  (r1:List Int) (r2:List Int) (r3:List Int) (r4:Int) (r5:Int) (w:World) (h:JC.f  = some (r1,r2,r3,r4,r5)) :
  Calls Try.prog 57 #[] w fun e w' => ∃ v0_ v1_ v2_:Value,e = .returned (.agg #[v0_,v1_,v2_,.int .i64 r4,.int .i64 r5])∧Kd.R (Kd.int .i64) 3 w' w.heap.size (fun k_=>some k_≠(v1_:Value).ownBlock∧some k_≠(v2_:Value).ownBlock) v0_ r1∧Kd.R (Kd.int .i64) 3 w' w.heap.size (fun k_=>some k_≠(v0_:Value).ownBlock∧some k_≠(v2_:Value).ownBlock) v1_ r2∧Kd.R (Kd.int .i64) 3 w' w.heap.size (fun k_=>some k_≠(v0_:Value).ownBlock∧some k_≠(v1_:Value).ownBlock) v2_ r3∧Below w.heap.size w w':=by
 have qlQ:=Try.underlying39
 have HB:=Q0.mk (Below.refl w.heap.size w)
 have H:(some ((([100,50,20]:List Int)),(([800,700,500]:List Int)),(([0,1,2]:List Int)),60,1))=some (r1,r2,r3,r4,r5):=h
 clear h
 obtain ⟨qgU,qkc⟩:∃ y_:List Int,y_=(([100,50,20]:List Int)):=⟨_,rfl⟩
 replace H:(some (qgU,(([800,700,500]:List Int)),(([0,1,2]:List Int)),60,1))=some (r1,r2,r3,r4,r5):=by first|(rw [qkc];with_reducible exact H)|(have H2_:=(Option.bind_some _ _).symm.trans H;rw [qkc];with_reducible exact H2_)|(have H2_:=(Option.bind_some _ _).symm.trans H;with_reducible exact H2_)|with_reducible exact H|(rw [qkc];exact H)|exact H
 have quL:=Q0.mk qkc
 clear qkc
 obtain ⟨qjA,qkd⟩:∃ y_:List Int,y_=(([800,700,500]:List Int)):=⟨_,rfl⟩
 replace H:(some (qgU,qjA,(([0,1,2]:List Int)),60,1))=some (r1,r2,r3,r4,r5):=by first|(rw [qkd];with_reducible exact H)|(have H2_:=(Option.bind_some _ _).symm.trans H;rw [qkd];with_reducible exact H2_)|(have H2_:=(Option.bind_some _ _).symm.trans H;with_reducible exact H2_)|with_reducible exact H|(rw [qkd];exact H)|exact H
 have quM:=Q0.mk qkd
 clear qkd
 obtain ⟨qmJ,qke⟩:∃ y_:List Int,y_=(([0,1,2]:List Int)):=⟨_,rfl⟩
 replace H:(some (qgU,qjA,qmJ,60,1))=some (r1,r2,r3,r4,r5):=by first|(rw [qke];with_reducible exact H)|(have H2_:=(Option.bind_some _ _).symm.trans H;rw [qke];with_reducible exact H2_)|(have H2_:=(Option.bind_some _ _).symm.trans H;with_reducible exact H2_)|with_reducible exact H|(rw [qke];exact H)|exact H
 have quN:=Q0.mk qke
 clear qke
 simp only [Option.some.injEq,Prod.mk.injEq] at H
 obtain ⟨rfl,rfl,rfl,rfl,rfl⟩:=H
 go_enter Try.func57,Try.ntmps57
 go_wp2_with (first|((with_reducible refine QZ (N:=0) rfl ?_);refine Yr ?hg (N:=0) ?hd (cs:=#[.slice none 0 0,.slice none 0 0,.slice none 0 0,.int .i64 0,.int .i64 0]) (t:=39) ?hr ?_;(case hd=>rfl);(case hg=>rfl);(case hr=>first|(go_simp;done)|(go_simp;rfl));intro Kp hg w1 hbox hb;have n0_:=Q0.mk (Qk (by repeat (first|(with_reducible first|exact HB.out|apply Q3|apply Q1|apply Q6)|exact HB.out)) hb);have n1_:=Q0.mk (hbox);have n2_:=Q0.mk ((by rw [hg];exact (Qh (by repeat (first|(with_reducible first|exact HB.out|apply Q3|apply Q1|apply Q6)|exact HB.out))):w.heap.size≤Kp));have n3_:=n2_;clear HB;have HB:=n0_;have O2:=n1_;have qIE:=n2_;have qf0:=n3_;clear n0_ n1_ n2_ n3_ hb hbox hg)|((with_reducible refine QZ (N:=1) rfl ?_);refine Kd.R_lit (Kd.int .i64) _ 3 ?hg (N:=1) ?hd (xs:=([100,50,20]:List Int)) (inner:=[.int .i64 100,.int .i64 50,.int .i64 20]) (ok:=fun _=>True) (okp:=fun _=>True) ?hr ?hp (fun _ hk=>hk) trivial (Below.refl _ _) (Nat.le_refl _) (by simp) ?_;(case hd=>rfl);(case hg=>rfl);(case hr=>first|(go_simp;done)|(go_simp;rfl));(case hp=>exact (Reps.one (show Kd.M (Kd.int .i64) _ _ _ 100 [.int .i64 100] from rfl) (Reps.one (show Kd.M (Kd.int .i64) _ _ _ 50 [.int .i64 50] from rfl) (Reps.one (show Kd.M (Kd.int .i64) _ _ _ 20 [.int .i64 20] from rfl) (Reps.none _ _)))));intro qLz w2 ho3 hb hg_ hnew_;clear hg_ hnew_;(first|rw [← quL.out] at ho3|(simp only [Int.reduceToNat] at ho3;rw [← quL.out] at ho3));have n0_:=Q0.mk (Kd.R_lower ho3 (Qh (by repeat (first|(with_reducible first|exact HB.out|apply Q3|apply Q1|apply Q6|refine Q5 ?_ qf0.out)|exact HB.out))));have n1_:=Q0.mk (Qg (g:=Kp) (by (with_reducible repeat (first|refine Q4 ?_ _|refine Q7 ?_|refine Q2 ?_ _));exact O2.out) hb);have n2_:=Q0.mk (Qk (by repeat (first|(with_reducible first|exact HB.out|apply Q3|apply Q1|apply Q6|refine Q5 ?_ qf0.out)|exact HB.out)) hb);clear O2 HB;have qb6:=n0_;have O2:=n1_;have HB:=n2_;clear n0_ n1_ n2_ hb ho3)|((with_reducible refine QZ (N:=2) rfl ?_);refine Kd.R_lit (Kd.int .i64) _ 3 ?hg (N:=2) ?hd (xs:=([800,700,500]:List Int)) (inner:=[.int .i64 800,.int .i64 700,.int .i64 500]) (ok:=fun _=>True) (okp:=fun _=>True) ?hr ?hp (fun _ hk=>hk) trivial (Below.refl _ _) (Nat.le_refl _) (by simp) ?_;(case hd=>rfl);(case hg=>rfl);(case hr=>first|(go_simp;done)|(go_simp;rfl));(case hp=>exact (Reps.one (show Kd.M (Kd.int .i64) _ _ _ 800 [.int .i64 800] from rfl) (Reps.one (show Kd.M (Kd.int .i64) _ _ _ 700 [.int .i64 700] from rfl) (Reps.one (show Kd.M (Kd.int .i64) _ _ _ 500 [.int .i64 500] from rfl) (Reps.none _ _)))));intro qLA w4 ho5 hb hg_ hnew_;clear hg_ hnew_;(first|rw [← quM.out] at ho5|(simp only [Int.reduceToNat] at ho5;rw [← quM.out] at ho5));have n0_:=Q0.mk (Kd.R_elder' (by (with_reducible repeat (first|apply Kd.R_alloc|apply Kd.R_drewN|apply Kd.R_drew));exact qb6.out) (Kd.R_base ho5) hb);have n1_:=Q0.mk (Kd.R_lower (Kd.R_new' ho5 (Kd.R_lt (by (with_reducible repeat (first|apply Kd.R_alloc|apply Kd.R_drewN|apply Kd.R_drew));exact qb6.out))) (Qh (by repeat (first|(with_reducible first|exact HB.out|apply Q3|apply Q1|apply Q6|refine Q5 ?_ qf0.out)|exact HB.out))));have n2_:=Q0.mk (Qg (g:=Kp) (by (with_reducible repeat (first|refine Q4 ?_ _|refine Q7 ?_|refine Q2 ?_ _));exact O2.out) hb);have n3_:=Q0.mk (Qk (by repeat (first|(with_reducible first|exact HB.out|apply Q3|apply Q1|apply Q6|refine Q5 ?_ qf0.out)|exact HB.out)) hb);clear qb6 O2 HB;have qb6:=n0_;have qhk:=n1_;have O2:=n2_;have HB:=n3_;clear n0_ n1_ n2_ n3_ hb ho5)|((with_reducible refine QZ (N:=3) rfl ?_);refine Kd.R_lit (Kd.int .i64) _ 3 ?hg (N:=3) ?hd (xs:=([0,1,2]:List Int)) (inner:=[.int .i64 0,.int .i64 1,.int .i64 2]) (ok:=fun _=>True) (okp:=fun _=>True) ?hr ?hp (fun _ hk=>hk) trivial (Below.refl _ _) (Nat.le_refl _) (by simp) ?_;(case hd=>rfl);(case hg=>rfl);(case hr=>first|(go_simp;done)|(go_simp;rfl));(case hp=>exact (Reps.one (show Kd.M (Kd.int .i64) _ _ _ 0 [.int .i64 0] from rfl) (Reps.one (show Kd.M (Kd.int .i64) _ _ _ 1 [.int .i64 1] from rfl) (Reps.one (show Kd.M (Kd.int .i64) _ _ _ 2 [.int .i64 2] from rfl) (Reps.none _ _)))));intro qLB w6 ho7 hb hg_ hnew_;clear hg_ hnew_;(first|rw [← quN.out] at ho7|(simp only [Int.reduceToNat] at ho7;rw [← quN.out] at ho7));have n0_:=Q0.mk (Kd.R_elder' (by (with_reducible repeat (first|apply Kd.R_alloc|apply Kd.R_drewN|apply Kd.R_drew));exact qb6.out) (Kd.R_base ho7) hb);have n1_:=Q0.mk (Kd.R_elder' (by (with_reducible repeat (first|apply Kd.R_alloc|apply Kd.R_drewN|apply Kd.R_drew));exact qhk.out) (Kd.R_base ho7) hb);have n2_:=Q0.mk (Kd.R_lower (Kd.R_new' (Kd.R_new' ho7 (Kd.R_lt (by (with_reducible repeat (first|apply Kd.R_alloc|apply Kd.R_drewN|apply Kd.R_drew));exact qb6.out))) (Kd.R_lt (by (with_reducible repeat (first|apply Kd.R_alloc|apply Kd.R_drewN|apply Kd.R_drew));exact qhk.out))) (Qh (by repeat (first|(with_reducible first|exact HB.out|apply Q3|apply Q1|apply Q6|refine Q5 ?_ qf0.out)|exact HB.out))));have n3_:=Q0.mk (Qg (g:=Kp) (by (with_reducible repeat (first|refine Q4 ?_ _|refine Q7 ?_|refine Q2 ?_ _));exact O2.out) hb);have n4_:=Q0.mk (Qk (by repeat (first|(with_reducible first|exact HB.out|apply Q3|apply Q1|apply Q6|refine Q5 ?_ qf0.out)|exact HB.out)) hb);clear qb6 qhk O2 HB;have qb6:=n0_;have qhk:=n1_;have quH:=n2_;have O2:=n3_;have HB:=n4_;clear n0_ n1_ n2_ n3_ n4_ hb ho7;obtain ⟨Ao8,co8,eo8⟩:=Kd.R_slice quH.out;subst eo8;obtain ⟨Ao9,co9,eo9⟩:=Kd.R_slice qhk.out;subst eo9;obtain ⟨Xv,XF,qqu⟩:=Kd.R_slice qb6.out;subst qqu;have qcY:w6.cell? ⟨Kp,0,none⟩=some (.slice none 0 0):=(Q9 O2.out 0).trans rfl;have qcZ:w6.cell? ⟨Kp,1,none⟩=some (.slice none 0 0):=(Q9 O2.out 1).trans rfl;have qc0:w6.cell? ⟨Kp,2,none⟩=some (.slice none 0 0):=(Q9 O2.out 2).trans rfl;have qc7:w6.cell? ⟨Kp,3,none⟩=some (.int .i64 0):=(Q9 O2.out 3).trans rfl;have qc8:w6.cell? ⟨Kp,4,none⟩=some (.int .i64 0):=(Q9 O2.out 4).trans rfl;have qdg:=Q8 O2.out 0;have qdh:=Q8 O2.out 1;have qdi:=Q8 O2.out 2;have qdj:=Q8 O2.out 3;have qdk:=Q8 O2.out 4))
 refine bodyPost_ret (results_cell_row rfl _ _ Kp 39 #[.slice Xv qgU.length XF,.slice Ao9 qjA.length co9,.slice Ao8 qmJ.length co8,.int .i64 60,.int .i64 1] (0,0) _ rfl (by (with_reducible repeat (first|refine Q4 ?_ _|refine Q7 ?_|refine Q2 ?_ _));refine QI (cs:=#[.slice Xv qgU.length XF,.slice Ao9 qjA.length co9,.slice Ao8 qmJ.length co8,.int .i64 60,.int .i64 0]) ?_ 4 _ rfl;(with_reducible repeat (first|refine Q4 ?_ _|refine Q7 ?_|refine Q2 ?_ _));refine QI (cs:=#[.slice Xv qgU.length XF,.slice Ao9 qjA.length co9,.slice Ao8 qmJ.length co8,.int .i64 0,.int .i64 0]) ?_ 3 _ rfl;(with_reducible repeat (first|refine Q4 ?_ _|refine Q7 ?_|refine Q2 ?_ _));refine QI (cs:=#[.slice Xv qgU.length XF,.slice Ao9 qjA.length co9,.slice none 0 0,.int .i64 0,.int .i64 0]) ?_ 2 _ rfl;(with_reducible repeat (first|refine Q4 ?_ _|refine Q7 ?_|refine Q2 ?_ _));refine QI (cs:=#[.slice Xv qgU.length XF,.slice none 0 0,.slice none 0 0,.int .i64 0,.int .i64 0]) ?_ 1 _ rfl;(with_reducible repeat (first|refine Q4 ?_ _|refine Q7 ?_|refine Q2 ?_ _));refine QI (cs:=#[.slice none 0 0,.slice none 0 0,.slice none 0 0,.int .i64 0,.int .i64 0]) ?_ 0 _ rfl;(with_reducible repeat (first|refine Q4 ?_ _|refine Q7 ?_|refine Q2 ?_ _));exact O2.out) Try.underlying39 rfl (by kernel_rfl)) rfl ?_
 exact ⟨_,_,_,by first|rfl|(simp [Qz,QA]<;>rfl)|(simp [*,Qz,QA]<;>rfl),by (with_reducible repeat (first|apply Kd.R_alloc|apply Kd.R_drewN|apply Kd.R_drew));exact Kd.R_mono (Kd.R_far (p:=⟨Kp,4,none⟩) (Kd.R_far (p:=⟨Kp,3,none⟩) (Kd.R_far (p:=⟨Kp,2,none⟩) (Kd.R_far (p:=⟨Kp,1,none⟩) (Kd.R_far (p:=⟨Kp,0,none⟩) (Kd.R_types qb6.out O2.out (by decide)) (fun _ hk=>hk.2) (.slice Xv qgU.length XF)) (fun _ hk=>hk.2) (.slice Ao9 qjA.length co9)) (fun _ hk=>hk.2) (.slice Ao8 qmJ.length co8)) (fun _ hk=>hk.2) (.int .i64 60)) (fun _ hk=>hk.2) (.int .i64 1)) (fun _ hk=>⟨hk.1.1.2,hk.1.2⟩),by (with_reducible repeat (first|apply Kd.R_alloc|apply Kd.R_drewN|apply Kd.R_drew));exact Kd.R_mono (Kd.R_far (p:=⟨Kp,4,none⟩) (Kd.R_far (p:=⟨Kp,3,none⟩) (Kd.R_far (p:=⟨Kp,2,none⟩) (Kd.R_far (p:=⟨Kp,1,none⟩) (Kd.R_far (p:=⟨Kp,0,none⟩) (Kd.R_types qhk.out O2.out (by decide)) (fun _ hk=>hk.2) (.slice Xv qgU.length XF)) (fun _ hk=>hk.2) (.slice Ao9 qjA.length co9)) (fun _ hk=>hk.2) (.slice Ao8 qmJ.length co8)) (fun _ hk=>hk.2) (.int .i64 60)) (fun _ hk=>hk.2) (.int .i64 1)) (fun _ hk=>⟨hk.1.1.2,hk.1.2⟩),by (with_reducible repeat (first|apply Kd.R_alloc|apply Kd.R_drewN|apply Kd.R_drew));exact Kd.R_mono (Kd.R_far (p:=⟨Kp,4,none⟩) (Kd.R_far (p:=⟨Kp,3,none⟩) (Kd.R_far (p:=⟨Kp,2,none⟩) (Kd.R_far (p:=⟨Kp,1,none⟩) (Kd.R_far (p:=⟨Kp,0,none⟩) (Kd.R_types quH.out O2.out (by decide)) (fun _ hk=>hk.2) (.slice Xv qgU.length XF)) (fun _ hk=>hk.2) (.slice Ao9 qjA.length co9)) (fun _ hk=>hk.2) (.slice Ao8 qmJ.length co8)) (fun _ hk=>hk.2) (.int .i64 60)) (fun _ hk=>hk.2) (.int .i64 1)) (fun _ hk=>⟨hk.1.1.2,hk.1.2⟩),by repeat (first|(with_reducible first|exact HB.out|apply Q3|apply Q1|apply Q6|refine Q5 ?_ qf0.out)|exact HB.out)⟩
end
section
attribute [local go_sem] Yv Yx YJ YK Yl Ym Yw Yy
def JW.f  : Option (List Int × List Int × List Int × Int × Int):=some ((([60,60]:List Int)),(([500,500]:List Int)),(([1,1]:List Int)),50,0)
set_option maxHeartbeats 8000000 in
set_option maxRecDepth 100000 in
theorem JW.calls  (r1:List Int) (r2:List Int) (r3:List Int) (r4:Int) (r5:Int) (w:World) (h:JW.f  = some (r1,r2,r3,r4,r5)) :
  Calls Try.prog 94 #[] w fun e w' => ∃ v0_ v1_ v2_:Value,e = .returned (.agg #[v0_,v1_,v2_,.int .i64 r4,.int .i64 r5])∧Kd.R (Kd.int .i64) 3 w' w.heap.size (fun k_=>some k_≠(v1_:Value).ownBlock∧some k_≠(v2_:Value).ownBlock) v0_ r1∧Kd.R (Kd.int .i64) 3 w' w.heap.size (fun k_=>some k_≠(v0_:Value).ownBlock∧some k_≠(v2_:Value).ownBlock) v1_ r2∧Kd.R (Kd.int .i64) 3 w' w.heap.size (fun k_=>some k_≠(v0_:Value).ownBlock∧some k_≠(v1_:Value).ownBlock) v2_ r3∧Below w.heap.size w w':=by
 have qlQ:=Try.underlying39
 have HB:=Q0.mk (Below.refl w.heap.size w)
 have H:(some ((([60,60]:List Int)),(([500,500]:List Int)),(([1,1]:List Int)),50,0))=some (r1,r2,r3,r4,r5):=h
 clear h
 obtain ⟨qgV,qkf⟩:∃ y_:List Int,y_=(([60,60]:List Int)):=⟨_,rfl⟩
 replace H:(some (qgV,(([500,500]:List Int)),(([1,1]:List Int)),50,0))=some (r1,r2,r3,r4,r5):=by first|(rw [qkf];with_reducible exact H)|(have H2_:=(Option.bind_some _ _).symm.trans H;rw [qkf];with_reducible exact H2_)|(have H2_:=(Option.bind_some _ _).symm.trans H;with_reducible exact H2_)|with_reducible exact H|(rw [qkf];exact H)|exact H
 have quO:=Q0.mk qkf
 clear qkf
 obtain ⟨qjB,qkg⟩:∃ y_:List Int,y_=(([500,500]:List Int)):=⟨_,rfl⟩
 replace H:(some (qgV,qjB,(([1,1]:List Int)),50,0))=some (r1,r2,r3,r4,r5):=by first|(rw [qkg];with_reducible exact H)|(have H2_:=(Option.bind_some _ _).symm.trans H;rw [qkg];with_reducible exact H2_)|(have H2_:=(Option.bind_some _ _).symm.trans H;with_reducible exact H2_)|with_reducible exact H|(rw [qkg];exact H)|exact H
 have quP:=Q0.mk qkg
 clear qkg
 obtain ⟨qmK,qkh⟩:∃ y_:List Int,y_=(([1,1]:List Int)):=⟨_,rfl⟩
 replace H:(some (qgV,qjB,qmK,50,0))=some (r1,r2,r3,r4,r5):=by first|(rw [qkh];with_reducible exact H)|(have H2_:=(Option.bind_some _ _).symm.trans H;rw [qkh];with_reducible exact H2_)|(have H2_:=(Option.bind_some _ _).symm.trans H;with_reducible exact H2_)|with_reducible exact H|(rw [qkh];exact H)|exact H
 have quQ:=Q0.mk qkh
 clear qkh
 simp only [Option.some.injEq,Prod.mk.injEq] at H
 obtain ⟨rfl,rfl,rfl,rfl,rfl⟩:=H
 go_enter Try.func94,Try.ntmps94
 go_wp2_with (first|((with_reducible refine QZ (N:=0) rfl ?_);refine Yr ?hg (N:=0) ?hd (cs:=#[.slice none 0 0,.slice none 0 0,.slice none 0 0,.int .i64 0,.int .i64 0]) (t:=39) ?hr ?_;(case hd=>rfl);(case hg=>rfl);(case hr=>first|(go_simp;done)|(go_simp;rfl));intro Kq hg w1 hbox hb;have n0_:=Q0.mk (Qk (by repeat (first|(with_reducible first|exact HB.out|apply Q3|apply Q1|apply Q6)|exact HB.out)) hb);have n1_:=Q0.mk (hbox);have n2_:=Q0.mk ((by rw [hg];exact (Qh (by repeat (first|(with_reducible first|exact HB.out|apply Q3|apply Q1|apply Q6)|exact HB.out))):w.heap.size≤Kq));have n3_:=n2_;clear HB;have HB:=n0_;have O3:=n1_;have qIF:=n2_;have qf1:=n3_;clear n0_ n1_ n2_ n3_ hb hbox hg)|((with_reducible refine QZ (N:=1) rfl ?_);refine Kd.R_lit (Kd.int .i64) _ 3 ?hg (N:=1) ?hd (xs:=([60,60]:List Int)) (inner:=[.int .i64 60,.int .i64 60]) (ok:=fun _=>True) (okp:=fun _=>True) ?hr ?hp (fun _ hk=>hk) trivial (Below.refl _ _) (Nat.le_refl _) (by simp) ?_;(case hd=>rfl);(case hg=>rfl);(case hr=>first|(go_simp;done)|(go_simp;rfl));(case hp=>exact (Reps.one (show Kd.M (Kd.int .i64) _ _ _ 60 [.int .i64 60] from rfl) (Reps.one (show Kd.M (Kd.int .i64) _ _ _ 60 [.int .i64 60] from rfl) (Reps.none _ _))));intro qLC w2 ho3 hb hg_ hnew_;clear hg_ hnew_;(first|rw [← quO.out] at ho3|(simp only [Int.reduceToNat] at ho3;rw [← quO.out] at ho3));have n0_:=Q0.mk (Kd.R_lower ho3 (Qh (by repeat (first|(with_reducible first|exact HB.out|apply Q3|apply Q1|apply Q6|refine Q5 ?_ qf1.out)|exact HB.out))));have n1_:=Q0.mk (Qg (g:=Kq) (by (with_reducible repeat (first|refine Q4 ?_ _|refine Q7 ?_|refine Q2 ?_ _));exact O3.out) hb);have n2_:=Q0.mk (Qk (by repeat (first|(with_reducible first|exact HB.out|apply Q3|apply Q1|apply Q6|refine Q5 ?_ qf1.out)|exact HB.out)) hb);clear O3 HB;have qb7:=n0_;have O3:=n1_;have HB:=n2_;clear n0_ n1_ n2_ hb ho3)|((with_reducible refine QZ (N:=2) rfl ?_);refine Kd.R_lit (Kd.int .i64) _ 3 ?hg (N:=2) ?hd (xs:=([500,500]:List Int)) (inner:=[.int .i64 500,.int .i64 500]) (ok:=fun _=>True) (okp:=fun _=>True) ?hr ?hp (fun _ hk=>hk) trivial (Below.refl _ _) (Nat.le_refl _) (by simp) ?_;(case hd=>rfl);(case hg=>rfl);(case hr=>first|(go_simp;done)|(go_simp;rfl));(case hp=>exact (Reps.one (show Kd.M (Kd.int .i64) _ _ _ 500 [.int .i64 500] from rfl) (Reps.one (show Kd.M (Kd.int .i64) _ _ _ 500 [.int .i64 500] from rfl) (Reps.none _ _))));intro qLD w4 ho5 hb hg_ hnew_;clear hg_ hnew_;(first|rw [← quP.out] at ho5|(simp only [Int.reduceToNat] at ho5;rw [← quP.out] at ho5));have n0_:=Q0.mk (Kd.R_elder' (by (with_reducible repeat (first|apply Kd.R_alloc|apply Kd.R_drewN|apply Kd.R_drew));exact qb7.out) (Kd.R_base ho5) hb);have n1_:=Q0.mk (Kd.R_lower (Kd.R_new' ho5 (Kd.R_lt (by (with_reducible repeat (first|apply Kd.R_alloc|apply Kd.R_drewN|apply Kd.R_drew));exact qb7.out))) (Qh (by repeat (first|(with_reducible first|exact HB.out|apply Q3|apply Q1|apply Q6|refine Q5 ?_ qf1.out)|exact HB.out))));have n2_:=Q0.mk (Qg (g:=Kq) (by (with_reducible repeat (first|refine Q4 ?_ _|refine Q7 ?_|refine Q2 ?_ _));exact O3.out) hb);have n3_:=Q0.mk (Qk (by repeat (first|(with_reducible first|exact HB.out|apply Q3|apply Q1|apply Q6|refine Q5 ?_ qf1.out)|exact HB.out)) hb);clear qb7 O3 HB;have qb7:=n0_;have qhl:=n1_;have O3:=n2_;have HB:=n3_;clear n0_ n1_ n2_ n3_ hb ho5)|((with_reducible refine QZ (N:=3) rfl ?_);refine Kd.R_lit (Kd.int .i64) _ 3 ?hg (N:=3) ?hd (xs:=([1,1]:List Int)) (inner:=[.int .i64 1,.int .i64 1]) (ok:=fun _=>True) (okp:=fun _=>True) ?hr ?hp (fun _ hk=>hk) trivial (Below.refl _ _) (Nat.le_refl _) (by simp) ?_;(case hd=>rfl);(case hg=>rfl);(case hr=>first|(go_simp;done)|(go_simp;rfl));(case hp=>exact (Reps.one (show Kd.M (Kd.int .i64) _ _ _ 1 [.int .i64 1] from rfl) (Reps.one (show Kd.M (Kd.int .i64) _ _ _ 1 [.int .i64 1] from rfl) (Reps.none _ _))));intro qLE w6 ho7 hb hg_ hnew_;clear hg_ hnew_;(first|rw [← quQ.out] at ho7|(simp only [Int.reduceToNat] at ho7;rw [← quQ.out] at ho7));have n0_:=Q0.mk (Kd.R_elder' (by (with_reducible repeat (first|apply Kd.R_alloc|apply Kd.R_drewN|apply Kd.R_drew));exact qb7.out) (Kd.R_base ho7) hb);have n1_:=Q0.mk (Kd.R_elder' (by (with_reducible repeat (first|apply Kd.R_alloc|apply Kd.R_drewN|apply Kd.R_drew));exact qhl.out) (Kd.R_base ho7) hb);have n2_:=Q0.mk (Kd.R_lower (Kd.R_new' (Kd.R_new' ho7 (Kd.R_lt (by (with_reducible repeat (first|apply Kd.R_alloc|apply Kd.R_drewN|apply Kd.R_drew));exact qb7.out))) (Kd.R_lt (by (with_reducible repeat (first|apply Kd.R_alloc|apply Kd.R_drewN|apply Kd.R_drew));exact qhl.out))) (Qh (by repeat (first|(with_reducible first|exact HB.out|apply Q3|apply Q1|apply Q6|refine Q5 ?_ qf1.out)|exact HB.out))));have n3_:=Q0.mk (Qg (g:=Kq) (by (with_reducible repeat (first|refine Q4 ?_ _|refine Q7 ?_|refine Q2 ?_ _));exact O3.out) hb);have n4_:=Q0.mk (Qk (by repeat (first|(with_reducible first|exact HB.out|apply Q3|apply Q1|apply Q6|refine Q5 ?_ qf1.out)|exact HB.out)) hb);clear qb7 qhl O3 HB;have qb7:=n0_;have qhl:=n1_;have quI:=n2_;have O3:=n3_;have HB:=n4_;clear n0_ n1_ n2_ n3_ n4_ hb ho7;obtain ⟨Ao8,co8,eo8⟩:=Kd.R_slice quI.out;subst eo8;obtain ⟨Ao9,co9,eo9⟩:=Kd.R_slice qhl.out;subst eo9;obtain ⟨Xv,XF,qqu⟩:=Kd.R_slice qb7.out;subst qqu;have qcY:w6.cell? ⟨Kq,0,none⟩=some (.slice none 0 0):=(Q9 O3.out 0).trans rfl;have qcZ:w6.cell? ⟨Kq,1,none⟩=some (.slice none 0 0):=(Q9 O3.out 1).trans rfl;have qc0:w6.cell? ⟨Kq,2,none⟩=some (.slice none 0 0):=(Q9 O3.out 2).trans rfl;have qc7:w6.cell? ⟨Kq,3,none⟩=some (.int .i64 0):=(Q9 O3.out 3).trans rfl;have qc8:w6.cell? ⟨Kq,4,none⟩=some (.int .i64 0):=(Q9 O3.out 4).trans rfl;have qdg:=Q8 O3.out 0;have qdh:=Q8 O3.out 1;have qdi:=Q8 O3.out 2;have qdj:=Q8 O3.out 3;have qdk:=Q8 O3.out 4))
 refine bodyPost_ret (results_cell_row rfl _ _ Kq 39 #[.slice Xv qgV.length XF,.slice Ao9 qjB.length co9,.slice Ao8 qmK.length co8,.int .i64 50,.int .i64 0] (0,0) _ rfl (by (with_reducible repeat (first|refine Q4 ?_ _|refine Q7 ?_|refine Q2 ?_ _));refine QI (cs:=#[.slice Xv qgV.length XF,.slice Ao9 qjB.length co9,.slice Ao8 qmK.length co8,.int .i64 50,.int .i64 0]) ?_ 4 _ rfl;(with_reducible repeat (first|refine Q4 ?_ _|refine Q7 ?_|refine Q2 ?_ _));refine QI (cs:=#[.slice Xv qgV.length XF,.slice Ao9 qjB.length co9,.slice Ao8 qmK.length co8,.int .i64 0,.int .i64 0]) ?_ 3 _ rfl;(with_reducible repeat (first|refine Q4 ?_ _|refine Q7 ?_|refine Q2 ?_ _));refine QI (cs:=#[.slice Xv qgV.length XF,.slice Ao9 qjB.length co9,.slice none 0 0,.int .i64 0,.int .i64 0]) ?_ 2 _ rfl;(with_reducible repeat (first|refine Q4 ?_ _|refine Q7 ?_|refine Q2 ?_ _));refine QI (cs:=#[.slice Xv qgV.length XF,.slice none 0 0,.slice none 0 0,.int .i64 0,.int .i64 0]) ?_ 1 _ rfl;(with_reducible repeat (first|refine Q4 ?_ _|refine Q7 ?_|refine Q2 ?_ _));refine QI (cs:=#[.slice none 0 0,.slice none 0 0,.slice none 0 0,.int .i64 0,.int .i64 0]) ?_ 0 _ rfl;(with_reducible repeat (first|refine Q4 ?_ _|refine Q7 ?_|refine Q2 ?_ _));exact O3.out) Try.underlying39 rfl (by kernel_rfl)) rfl ?_
 exact ⟨_,_,_,by first|rfl|(simp [Qz,QA]<;>rfl)|(simp [*,Qz,QA]<;>rfl),by (with_reducible repeat (first|apply Kd.R_alloc|apply Kd.R_drewN|apply Kd.R_drew));exact Kd.R_mono (Kd.R_far (p:=⟨Kq,4,none⟩) (Kd.R_far (p:=⟨Kq,3,none⟩) (Kd.R_far (p:=⟨Kq,2,none⟩) (Kd.R_far (p:=⟨Kq,1,none⟩) (Kd.R_far (p:=⟨Kq,0,none⟩) (Kd.R_types qb7.out O3.out (by decide)) (fun _ hk=>hk.2) (.slice Xv qgV.length XF)) (fun _ hk=>hk.2) (.slice Ao9 qjB.length co9)) (fun _ hk=>hk.2) (.slice Ao8 qmK.length co8)) (fun _ hk=>hk.2) (.int .i64 50)) (fun _ hk=>hk.2) (.int .i64 0)) (fun _ hk=>⟨hk.1.1.2,hk.1.2⟩),by (with_reducible repeat (first|apply Kd.R_alloc|apply Kd.R_drewN|apply Kd.R_drew));exact Kd.R_mono (Kd.R_far (p:=⟨Kq,4,none⟩) (Kd.R_far (p:=⟨Kq,3,none⟩) (Kd.R_far (p:=⟨Kq,2,none⟩) (Kd.R_far (p:=⟨Kq,1,none⟩) (Kd.R_far (p:=⟨Kq,0,none⟩) (Kd.R_types qhl.out O3.out (by decide)) (fun _ hk=>hk.2) (.slice Xv qgV.length XF)) (fun _ hk=>hk.2) (.slice Ao9 qjB.length co9)) (fun _ hk=>hk.2) (.slice Ao8 qmK.length co8)) (fun _ hk=>hk.2) (.int .i64 50)) (fun _ hk=>hk.2) (.int .i64 0)) (fun _ hk=>⟨hk.1.1.2,hk.1.2⟩),by (with_reducible repeat (first|apply Kd.R_alloc|apply Kd.R_drewN|apply Kd.R_drew));exact Kd.R_mono (Kd.R_far (p:=⟨Kq,4,none⟩) (Kd.R_far (p:=⟨Kq,3,none⟩) (Kd.R_far (p:=⟨Kq,2,none⟩) (Kd.R_far (p:=⟨Kq,1,none⟩) (Kd.R_far (p:=⟨Kq,0,none⟩) (Kd.R_types quI.out O3.out (by decide)) (fun _ hk=>hk.2) (.slice Xv qgV.length XF)) (fun _ hk=>hk.2) (.slice Ao9 qjB.length co9)) (fun _ hk=>hk.2) (.slice Ao8 qmK.length co8)) (fun _ hk=>hk.2) (.int .i64 50)) (fun _ hk=>hk.2) (.int .i64 0)) (fun _ hk=>⟨hk.1.1.2,hk.1.2⟩),by repeat (first|(with_reducible first|exact HB.out|apply Q3|apply Q1|apply Q6|refine Q5 ?_ qf1.out)|exact HB.out)⟩
end
section
attribute [local go_sem] Yv Yx YJ YK Yl Ym Yw Yy
def Gc.f  : Option ((List (S39)) × List Int × (List (List (List Int)))):=(JC.f).bind fun qa5=>((JW.f).bind fun UI=>(some ((([(⟨qa5.1,qa5.2.1,qa5.2.2.1,qa5.2.2.2.1,qa5.2.2.2.2⟩:S39),(⟨UI.1,UI.2.1,UI.2.2.1,UI.2.2.2.1,UI.2.2.2.2⟩:S39)]:List (S39))),(([40,80]:List Int)),(([(([(([90,80]:List Int)),(([10,10]:List Int))]:List (List Int))),(([(([0,0]:List Int)),(([0,0]:List Int))]:List (List Int)))]:List (List (List Int)))))))
set_option maxHeartbeats 8000000 in
set_option maxRecDepth 100000 in
theorem Gc.calls  (r1:List (S39)) (r2:List Int) (r3:List (List (List Int))) (w:World) (h:Gc.f  = some (r1,r2,r3)) :
  Calls Try.prog 58 #[] w fun e w' => ∃ v0_ v1_ v2_:Value,e = .returned (.agg #[v0_,v1_,v2_])∧Kd.N k39 39 w' w.heap.size (fun k_=>(w.heap.size≤k_)∧some k_≠(v1_:Value).ownBlock∧some k_≠(v2_:Value).ownBlock) v0_ r1∧Kd.R (Kd.int .i64) 3 w' w.heap.size (fun k_=>(w.heap.size≤k_)) v1_ r2∧Kd.N (Kd.slice 37 (Kd.slice 3 (Kd.int .i64))) 63 w' w.heap.size (fun k_=>(w.heap.size≤k_)∧some k_≠(v0_:Value).ownBlock∧some k_≠(v1_:Value).ownBlock) v2_ r3∧Below w.heap.size w w':=by
 have qoO:=Try.underlying47
 have HB:=Q0.mk (Below.refl w.heap.size w)
 have H:((JC.f).bind fun qa5=>((JW.f).bind fun UI=>(some ((([(⟨qa5.1,qa5.2.1,qa5.2.2.1,qa5.2.2.2.1,qa5.2.2.2.2⟩:S39),(⟨UI.1,UI.2.1,UI.2.2.1,UI.2.2.2.1,UI.2.2.2.2⟩:S39)]:List (S39))),(([40,80]:List Int)),(([(([(([90,80]:List Int)),(([10,10]:List Int))]:List (List Int))),(([(([0,0]:List Int)),(([0,0]:List Int))]:List (List Int)))]:List (List (List Int))))))))=some (r1,r2,r3):=h
 clear h
 replace H:=Option.bind_eq_some_iff.mp H
 obtain ⟨⟨qi4,qi5,qi6,qi7,qi8⟩,A10,H⟩:=H
 replace H:((JW.f).bind fun UI=>(some ((([(⟨qi4,qi5,qi6,qi7,qi8⟩:S39),(⟨UI.1,UI.2.1,UI.2.2.1,UI.2.2.2.1,UI.2.2.2.2⟩:S39)]:List (S39))),(([40,80]:List Int)),(([(([(([90,80]:List Int)),(([10,10]:List Int))]:List (List Int))),(([(([0,0]:List Int)),(([0,0]:List Int))]:List (List Int)))]:List (List (List Int)))))))=some (r1,r2,r3):=H
 have A1:=Q0.mk A10
 clear A10
 replace H:=Option.bind_eq_some_iff.mp H
 obtain ⟨⟨qkV,qkW,qkX,qkY,qkZ⟩,A20,H⟩:=H
 replace H:(some ((([(⟨qi4,qi5,qi6,qi7,qi8⟩:S39),(⟨qkV,qkW,qkX,qkY,qkZ⟩:S39)]:List (S39))),(([40,80]:List Int)),(([(([(([90,80]:List Int)),(([10,10]:List Int))]:List (List Int))),(([(([0,0]:List Int)),(([0,0]:List Int))]:List (List Int)))]:List (List (List Int))))))=some (r1,r2,r3):=H
 have A2:=Q0.mk A20
 clear A20
 obtain ⟨qcF,qki⟩:∃ y_:List (S39),y_=(([(⟨qi4,qi5,qi6,qi7,qi8⟩:S39),(⟨qkV,qkW,qkX,qkY,qkZ⟩:S39)]:List (S39))):=⟨_,rfl⟩
 replace H:(some (qcF,(([40,80]:List Int)),(([(([(([90,80]:List Int)),(([10,10]:List Int))]:List (List Int))),(([(([0,0]:List Int)),(([0,0]:List Int))]:List (List Int)))]:List (List (List Int))))))=some (r1,r2,r3):=by first|(rw [qki];with_reducible exact H)|(have H2_:=(Option.bind_some _ _).symm.trans H;rw [qki];with_reducible exact H2_)|(have H2_:=(Option.bind_some _ _).symm.trans H;with_reducible exact H2_)|with_reducible exact H|(rw [qki];exact H)|exact H
 have quR:=Q0.mk qki
 clear qki
 obtain ⟨qeq,qkj⟩:∃ y_:List Int,y_=(([40,80]:List Int)):=⟨_,rfl⟩
 replace H:(some (qcF,qeq,(([(([(([90,80]:List Int)),(([10,10]:List Int))]:List (List Int))),(([(([0,0]:List Int)),(([0,0]:List Int))]:List (List Int)))]:List (List (List Int))))))=some (r1,r2,r3):=by first|(rw [qkj];with_reducible exact H)|(have H2_:=(Option.bind_some _ _).symm.trans H;rw [qkj];with_reducible exact H2_)|(have H2_:=(Option.bind_some _ _).symm.trans H;with_reducible exact H2_)|with_reducible exact H|(rw [qkj];exact H)|exact H
 have quS:=Q0.mk qkj
 clear qkj
 obtain ⟨qmL,qkk⟩:∃ y_:List Int,y_=(([90,80]:List Int)):=⟨_,rfl⟩
 replace H:(some (qcF,qeq,(([(([qmL,(([10,10]:List Int))]:List (List Int))),(([(([0,0]:List Int)),(([0,0]:List Int))]:List (List Int)))]:List (List (List Int))))))=some (r1,r2,r3):=by first|(rw [qkk];with_reducible exact H)|(have H2_:=(Option.bind_some _ _).symm.trans H;rw [qkk];with_reducible exact H2_)|(have H2_:=(Option.bind_some _ _).symm.trans H;with_reducible exact H2_)|with_reducible exact H|(rw [qkk];exact H)|exact H
 have quT:=Q0.mk qkk
 clear qkk
 obtain ⟨qpg,qkl⟩:∃ y_:List Int,y_=(([10,10]:List Int)):=⟨_,rfl⟩
 replace H:(some (qcF,qeq,(([(([qmL,qpg]:List (List Int))),(([(([0,0]:List Int)),(([0,0]:List Int))]:List (List Int)))]:List (List (List Int))))))=some (r1,r2,r3):=by first|(rw [qkl];with_reducible exact H)|(have H2_:=(Option.bind_some _ _).symm.trans H;rw [qkl];with_reducible exact H2_)|(have H2_:=(Option.bind_some _ _).symm.trans H;with_reducible exact H2_)|with_reducible exact H|(rw [qkl];exact H)|exact H
 have quU:=Q0.mk qkl
 clear qkl
 obtain ⟨qjC,qkm⟩:∃ y_:List (List Int),y_=(([qmL,qpg]:List (List Int))):=⟨_,rfl⟩
 replace H:(some (qcF,qeq,(([qjC,(([(([0,0]:List Int)),(([0,0]:List Int))]:List (List Int)))]:List (List (List Int))))))=some (r1,r2,r3):=by first|(rw [qkm];with_reducible exact H)|(have H2_:=(Option.bind_some _ _).symm.trans H;rw [qkm];with_reducible exact H2_)|(have H2_:=(Option.bind_some _ _).symm.trans H;with_reducible exact H2_)|with_reducible exact H|(rw [qkm];exact H)|exact H
 have quV:=Q0.mk qkm
 clear qkm
 obtain ⟨qmM,qkn⟩:∃ y_:List Int,y_=(([0,0]:List Int)):=⟨_,rfl⟩
 replace H:(some (qcF,qeq,(([qjC,(([qmM,(([0,0]:List Int))]:List (List Int)))]:List (List (List Int))))))=some (r1,r2,r3):=by first|(rw [qkn];with_reducible exact H)|(have H2_:=(Option.bind_some _ _).symm.trans H;rw [qkn];with_reducible exact H2_)|(have H2_:=(Option.bind_some _ _).symm.trans H;with_reducible exact H2_)|with_reducible exact H|(rw [qkn];exact H)|exact H
 have quW:=Q0.mk qkn
 clear qkn
 obtain ⟨qph,qko⟩:∃ y_:List Int,y_=(([0,0]:List Int)):=⟨_,rfl⟩
 replace H:(some (qcF,qeq,(([qjC,(([qmM,qph]:List (List Int)))]:List (List (List Int))))))=some (r1,r2,r3):=by first|(rw [qko];with_reducible exact H)|(have H2_:=(Option.bind_some _ _).symm.trans H;rw [qko];with_reducible exact H2_)|(have H2_:=(Option.bind_some _ _).symm.trans H;with_reducible exact H2_)|with_reducible exact H|(rw [qko];exact H)|exact H
 have quX:=Q0.mk qko
 clear qko
 obtain ⟨qpi,qkp⟩:∃ y_:List (List Int),y_=(([qmM,qph]:List (List Int))):=⟨_,rfl⟩
 replace H:(some (qcF,qeq,(([qjC,qpi]:List (List (List Int))))))=some (r1,r2,r3):=by first|(rw [qkp];with_reducible exact H)|(have H2_:=(Option.bind_some _ _).symm.trans H;rw [qkp];with_reducible exact H2_)|(have H2_:=(Option.bind_some _ _).symm.trans H;with_reducible exact H2_)|with_reducible exact H|(rw [qkp];exact H)|exact H
 have quY:=Q0.mk qkp
 clear qkp
 obtain ⟨qrN,qkq⟩:∃ y_:List (List (List Int)),y_=(([qjC,qpi]:List (List (List Int)))):=⟨_,rfl⟩
 replace H:(some (qcF,qeq,qrN))=some (r1,r2,r3):=by first|(rw [qkq];with_reducible exact H)|(have H2_:=(Option.bind_some _ _).symm.trans H;rw [qkq];with_reducible exact H2_)|(have H2_:=(Option.bind_some _ _).symm.trans H;with_reducible exact H2_)|with_reducible exact H|(rw [qkq];exact H)|exact H
 have quZ:=Q0.mk qkq
 clear qkq
 simp only [Option.some.injEq,Prod.mk.injEq] at H
 obtain ⟨rfl,rfl,rfl⟩:=H
 go_enter Try.func58,Try.ntmps58
 go_wp2_with (first|((with_reducible refine QZ (N:=0) rfl ?_);refine Yr ?hg (N:=0) ?hd (cs:=#[.slice none 0 0,.slice none 0 0,.slice none 0 0]) (t:=47) ?hr ?_;(case hd=>rfl);(case hg=>rfl);(case hr=>first|(go_simp;done)|(go_simp;rfl));intro Zk hg w3 hbox hb;have n0_:=Q0.mk (Qk (by repeat (first|(with_reducible first|exact HB.out|apply Q3|apply Q1|apply Q6)|exact HB.out)) hb);have n1_:=Q0.mk (hbox);have n2_:=Q0.mk ((by rw [hg];exact (Qh (by repeat (first|(with_reducible first|exact HB.out|apply Q3|apply Q1|apply Q6)|exact HB.out))):w.heap.size≤Zk));have n3_:=n2_;clear HB;have HB:=n0_;have Zq:=n1_;have qIG:=n2_;have JG:=n3_;clear n0_ n1_ n2_ n3_ hb hbox hg)|((with_reducible refine QG (f:=57) rfl ?_);refine YF (some 1) rfl rfl Try.func57 (by kernel_rfl) rfl #[] rfl (by (try simp only [List.map_toArray,List.map_cons,List.map_nil]);first|done|rfl|(simp only [List.length_drop,List.length_take];rfl)) ?_;(with_reducible refine (JC.calls  qi4 qi5 qi6 qi7 qi8 _ A1.out).mono ?_);rintro e w4 ⟨qLF,qLG,qLH,rfl,ho0,ho1,ho2,hb⟩;refine ⟨_,rfl,?_⟩;have n0_:=Q0.mk (Kd.R_lower (Kd.R_newM (M:=fun k_=>(w.heap.size≤k_)) ho0 (Qh (by repeat (first|(with_reducible first|exact HB.out|apply Q3|apply Q1|apply Q6|refine Q5 ?_ JG.out)|exact HB.out))) (fun k_ h_=>h_)) (Qh (by repeat (first|(with_reducible first|exact HB.out|apply Q3|apply Q1|apply Q6|refine Q5 ?_ JG.out)|exact HB.out))));have n1_:=Q0.mk (Kd.R_lower (Kd.R_newM (M:=fun k_=>(w.heap.size≤k_)) ho1 (Qh (by repeat (first|(with_reducible first|exact HB.out|apply Q3|apply Q1|apply Q6|refine Q5 ?_ JG.out)|exact HB.out))) (fun k_ h_=>h_)) (Qh (by repeat (first|(with_reducible first|exact HB.out|apply Q3|apply Q1|apply Q6|refine Q5 ?_ JG.out)|exact HB.out))));have n2_:=Q0.mk (Kd.R_lower (Kd.R_newM (M:=fun k_=>(w.heap.size≤k_)) ho2 (Qh (by repeat (first|(with_reducible first|exact HB.out|apply Q3|apply Q1|apply Q6|refine Q5 ?_ JG.out)|exact HB.out))) (fun k_ h_=>h_)) (Qh (by repeat (first|(with_reducible first|exact HB.out|apply Q3|apply Q1|apply Q6|refine Q5 ?_ JG.out)|exact HB.out))));have n3_:=Q0.mk (Qg (g:=Zk) (by (with_reducible repeat (first|refine Q4 ?_ _|refine Q7 ?_|refine Q2 ?_ _));exact Zq.out) hb);have n4_:=Q0.mk (Qk (by repeat (first|(with_reducible first|exact HB.out|apply Q3|apply Q1|apply Q6|refine Q5 ?_ JG.out)|exact HB.out)) hb);clear Zq HB;have qb8:=n0_;have qb9:=n1_;have qca:=n2_;have Zq:=n3_;have HB:=n4_;clear n0_ n1_ n2_ n3_ n4_;(try clear hb);(try clear hb2);(try clear hk);(try clear hi);(try clear ho0);(try clear ho1);(try clear ho2))|((with_reducible refine QG (f:=94) rfl ?_);refine YF (some 2) rfl rfl Try.func94 (by kernel_rfl) rfl #[] rfl (by (try simp only [List.map_toArray,List.map_cons,List.map_nil]);first|done|rfl|(simp only [List.length_drop,List.length_take];rfl)) ?_;(with_reducible refine (JW.calls  qkV qkW qkX qkY qkZ _ A2.out).mono ?_);rintro e w5 ⟨qLI,qLJ,qLK,rfl,ho0,ho1,ho2,hb⟩;refine ⟨_,rfl,?_⟩;have n0_:=Q0.mk (Kd.R_mono (Kd.R_told (Kd.R_told (Kd.R_told (Kd.R_old (by (with_reducible repeat (first|apply Kd.R_alloc|apply Kd.R_drewN|apply Kd.R_drew));exact qb8.out) hb) (Kd.R_base ho0)) (Kd.R_base ho1)) (Kd.R_base ho2)) (fun _ h_=>h_.1));have n1_:=Q0.mk (Kd.R_mono (Kd.R_told (Kd.R_told (Kd.R_told (Kd.R_old (by (with_reducible repeat (first|apply Kd.R_alloc|apply Kd.R_drewN|apply Kd.R_drew));exact qb9.out) hb) (Kd.R_base ho0)) (Kd.R_base ho1)) (Kd.R_base ho2)) (fun _ h_=>h_.1));have n2_:=Q0.mk (Kd.R_mono (Kd.R_told (Kd.R_told (Kd.R_told (Kd.R_old (by (with_reducible repeat (first|apply Kd.R_alloc|apply Kd.R_drewN|apply Kd.R_drew));exact qca.out) hb) (Kd.R_base ho0)) (Kd.R_base ho1)) (Kd.R_base ho2)) (fun _ h_=>h_.1));have n3_:=Q0.mk (Kd.R_lower (Kd.R_new' (Kd.R_new' (Kd.R_new' (Kd.R_newM (M:=fun k_=>(w.heap.size≤k_)) ho0 (Qh (by repeat (first|(with_reducible first|exact HB.out|apply Q3|apply Q1|apply Q6|refine Q5 ?_ JG.out)|exact HB.out))) (fun k_ h_=>h_)) (Kd.R_lt (by (with_reducible repeat (first|apply Kd.R_alloc|apply Kd.R_drewN|apply Kd.R_drew));exact qb8.out))) (Kd.R_lt (by (with_reducible repeat (first|apply Kd.R_alloc|apply Kd.R_drewN|apply Kd.R_drew));exact qb9.out))) (Kd.R_lt (by (with_reducible repeat (first|apply Kd.R_alloc|apply Kd.R_drewN|apply Kd.R_drew));exact qca.out))) (Qh (by repeat (first|(with_reducible first|exact HB.out|apply Q3|apply Q1|apply Q6|refine Q5 ?_ JG.out)|exact HB.out))));have n4_:=Q0.mk (Kd.R_lower (Kd.R_new' (Kd.R_new' (Kd.R_new' (Kd.R_newM (M:=fun k_=>(w.heap.size≤k_)) ho1 (Qh (by repeat (first|(with_reducible first|exact HB.out|apply Q3|apply Q1|apply Q6|refine Q5 ?_ JG.out)|exact HB.out))) (fun k_ h_=>h_)) (Kd.R_lt (by (with_reducible repeat (first|apply Kd.R_alloc|apply Kd.R_drewN|apply Kd.R_drew));exact qb8.out))) (Kd.R_lt (by (with_reducible repeat (first|apply Kd.R_alloc|apply Kd.R_drewN|apply Kd.R_drew));exact qb9.out))) (Kd.R_lt (by (with_reducible repeat (first|apply Kd.R_alloc|apply Kd.R_drewN|apply Kd.R_drew));exact qca.out))) (Qh (by repeat (first|(with_reducible first|exact HB.out|apply Q3|apply Q1|apply Q6|refine Q5 ?_ JG.out)|exact HB.out))));have n5_:=Q0.mk (Kd.R_lower (Kd.R_new' (Kd.R_new' (Kd.R_new' (Kd.R_newM (M:=fun k_=>(w.heap.size≤k_)) ho2 (Qh (by repeat (first|(with_reducible first|exact HB.out|apply Q3|apply Q1|apply Q6|refine Q5 ?_ JG.out)|exact HB.out))) (fun k_ h_=>h_)) (Kd.R_lt (by (with_reducible repeat (first|apply Kd.R_alloc|apply Kd.R_drewN|apply Kd.R_drew));exact qb8.out))) (Kd.R_lt (by (with_reducible repeat (first|apply Kd.R_alloc|apply Kd.R_drewN|apply Kd.R_drew));exact qb9.out))) (Kd.R_lt (by (with_reducible repeat (first|apply Kd.R_alloc|apply Kd.R_drewN|apply Kd.R_drew));exact qca.out))) (Qh (by repeat (first|(with_reducible first|exact HB.out|apply Q3|apply Q1|apply Q6|refine Q5 ?_ JG.out)|exact HB.out))));have n6_:=Q0.mk (Qg (g:=Zk) (by (with_reducible repeat (first|refine Q4 ?_ _|refine Q7 ?_|refine Q2 ?_ _));exact Zq.out) hb);have n7_:=Q0.mk (Qk (by repeat (first|(with_reducible first|exact HB.out|apply Q3|apply Q1|apply Q6|refine Q5 ?_ JG.out)|exact HB.out)) hb);clear qb8 qb9 qca Zq HB;have qb8:=n0_;have qb9:=n1_;have qca:=n2_;have qmU:=n3_;have qmV:=n4_;have qmW:=n5_;have Zq:=n6_;have HB:=n7_;clear n0_ n1_ n2_ n3_ n4_ n5_ n6_ n7_;(try clear hb);(try clear hb2);(try clear hk);(try clear hi);(try clear ho0);(try clear ho1);(try clear ho2);obtain ⟨Ao6,co6,eo6⟩:=Kd.R_slice qb8.out;subst eo6;obtain ⟨Ao7,co7,eo7⟩:=Kd.R_slice qb9.out;subst eo7;obtain ⟨Ao8,co8,eo8⟩:=Kd.R_slice qca.out;subst eo8;obtain ⟨Ao9,co9,eo9⟩:=Kd.R_slice qmU.out;subst eo9;obtain ⟨Xv,XF,qqu⟩:=Kd.R_slice qmV.out;subst qqu;obtain ⟨qxE,qyv,qHh⟩:=Kd.R_slice qmW.out;subst qHh)|((with_reducible refine QZ (N:=3) rfl ?_);refine Kd.N_lit k39 _ 39 ?hg (N':=3) ?hd (xs:=([(⟨qi4,qi5,qi6,qi7,qi8⟩:S39),(⟨qkV,qkW,qkX,qkY,qkZ⟩:S39)]:List (S39))) (inner:=[.slice Ao6 qi4.length co6,.slice Ao7 qi5.length co7,.slice Ao8 qi6.length co8,.int .i64 qi7,.int .i64 qi8,.slice Ao9 qkV.length co9,.slice Xv qkW.length XF,.slice qxE qkX.length qyv,.int .i64 qkY,.int .i64 qkZ]) (ok:=(fun k_=>(w.heap.size≤k_)∧k_≠Zk)) (okp:=(fun k_=>(w.heap.size≤k_)∧k_≠Zk)) ?hr ?hp (fun _ hk=>hk) ((show ∀ k_,w5.heap.size≤k_→(fun k_=>(w.heap.size≤k_)∧k_≠Zk) k_ from fun k_ hk=>⟨(Nat.le_trans (Qh (by repeat (first|(with_reducible first|exact HB.out|apply Q3|apply Q1|apply Q6|refine Q5 ?_ JG.out)|exact HB.out))) hk),Kd.freshB (g:=Zk) (by (with_reducible repeat (first|refine Q4 ?_ _|refine Q7 ?_|refine Q2 ?_ _));exact Zq.out) k_ hk⟩) _ (Nat.le_refl _)) (Below.refl _ _) (Nat.le_refl _) (by simp) ?_;(case hd=>rfl);(case hg=>rfl);(case hr=>first|(go_simp;done)|(go_simp;rfl));(case hp=>exact (Reps.c5 (show Kd.FK k39 _ _ (⟨qi4,qi5,qi6,qi7,qi8⟩:S39) [.slice Ao6 qi4.length co6,.slice Ao7 qi5.length co7,.slice Ao8 qi6.length co8,.int .i64 qi7,.int .i64 qi8] from (qn7 _ _ (⟨qi4,qi5,qi6,qi7,qi8⟩:S39) (Kd.R_reads' (Kd.R_mono (ok':=(fun k_=>(w.heap.size≤k_)∧k_≠Zk)) (Kd.R_types (qb8.out) Zq.out (by decide)) (fun k_ hk=>⟨hk.1.1.1.1.1,hk.2⟩))).2.1 (Kd.R_F (Kd.R_mono (ok':=(fun k_=>(w.heap.size≤k_)∧k_≠Zk)) (Kd.R_types (qb8.out) Zq.out (by decide)) (fun k_ hk=>⟨hk.1.1.1.1.1,hk.2⟩))) (Kd.R_reads' (Kd.R_mono (ok':=(fun k_=>(w.heap.size≤k_)∧k_≠Zk)) (Kd.R_types (qb9.out) Zq.out (by decide)) (fun k_ hk=>⟨hk.1.1.1.1.1,hk.2⟩))).2.1 (Kd.R_F (Kd.R_mono (ok':=(fun k_=>(w.heap.size≤k_)∧k_≠Zk)) (Kd.R_types (qb9.out) Zq.out (by decide)) (fun k_ hk=>⟨hk.1.1.1.1.1,hk.2⟩))) (Kd.R_reads' (Kd.R_mono (ok':=(fun k_=>(w.heap.size≤k_)∧k_≠Zk)) (Kd.R_types (qca.out) Zq.out (by decide)) (fun k_ hk=>⟨hk.1.1.1.1.1,hk.2⟩))).2.1 (Kd.R_F (Kd.R_mono (ok':=(fun k_=>(w.heap.size≤k_)∧k_≠Zk)) (Kd.R_types (qca.out) Zq.out (by decide)) (fun k_ hk=>⟨hk.1.1.1.1.1,hk.2⟩))))) (Reps.c5 (show Kd.FK k39 _ _ (⟨qkV,qkW,qkX,qkY,qkZ⟩:S39) [.slice Ao9 qkV.length co9,.slice Xv qkW.length XF,.slice qxE qkX.length qyv,.int .i64 qkY,.int .i64 qkZ] from (qn7 _ _ (⟨qkV,qkW,qkX,qkY,qkZ⟩:S39) (Kd.R_reads' (Kd.R_mono (ok':=(fun k_=>(w.heap.size≤k_)∧k_≠Zk)) (Kd.R_types (qmU.out) Zq.out (by decide)) (fun k_ hk=>⟨hk.1.1.1.1.1,hk.2⟩))).2.1 (Kd.R_F (Kd.R_mono (ok':=(fun k_=>(w.heap.size≤k_)∧k_≠Zk)) (Kd.R_types (qmU.out) Zq.out (by decide)) (fun k_ hk=>⟨hk.1.1.1.1.1,hk.2⟩))) (Kd.R_reads' (Kd.R_mono (ok':=(fun k_=>(w.heap.size≤k_)∧k_≠Zk)) (Kd.R_types (qmV.out) Zq.out (by decide)) (fun k_ hk=>⟨hk.1.1.1.1.1,hk.2⟩))).2.1 (Kd.R_F (Kd.R_mono (ok':=(fun k_=>(w.heap.size≤k_)∧k_≠Zk)) (Kd.R_types (qmV.out) Zq.out (by decide)) (fun k_ hk=>⟨hk.1.1.1.1.1,hk.2⟩))) (Kd.R_reads' (Kd.R_mono (ok':=(fun k_=>(w.heap.size≤k_)∧k_≠Zk)) (Kd.R_types (qmW.out) Zq.out (by decide)) (fun k_ hk=>⟨hk.1.1.1.1.1,hk.2⟩))).2.1 (Kd.R_F (Kd.R_mono (ok':=(fun k_=>(w.heap.size≤k_)∧k_≠Zk)) (Kd.R_types (qmW.out) Zq.out (by decide)) (fun k_ hk=>⟨hk.1.1.1.1.1,hk.2⟩))))) (Reps.none _ _))));intro Xr w12 qqY hb hg_ hnew_;clear hg_ hnew_;(first|rw [← quR.out] at qqY|(simp only [Int.reduceToNat] at qqY;rw [← quR.out] at qqY));have n0_:=Q0.mk (Kd.N_lower qqY (Qh (by repeat (first|(with_reducible first|exact HB.out|apply Q3|apply Q1|apply Q6|refine Q5 ?_ JG.out)|exact HB.out))));have n1_:=Q0.mk (Qg (g:=Zk) (by (with_reducible repeat (first|refine Q4 ?_ _|refine Q7 ?_|refine Q2 ?_ _));exact Zq.out) hb);have n2_:=Q0.mk (Qk (by repeat (first|(with_reducible first|exact HB.out|apply Q3|apply Q1|apply Q6|refine Q5 ?_ JG.out)|exact HB.out)) hb);clear Zq HB qb8 qb9 qca qmU qmV qmW;have G1:=n0_;have Zq:=n1_;have HB:=n2_;clear n0_ n1_ n2_ hb qqY)|((with_reducible refine QZ (N:=4) rfl ?_);refine Kd.R_lit (Kd.int .i64) _ 3 ?hg (N:=4) ?hd (xs:=([40,80]:List Int)) (inner:=[.int .i64 40,.int .i64 80]) (ok:=fun _=>True) (okp:=fun _=>True) ?hr ?hp (fun _ hk=>hk) trivial (Below.refl _ _) (Nat.le_refl _) (by simp) ?_;(case hd=>rfl);(case hg=>rfl);(case hr=>first|(go_simp;done)|(go_simp;rfl));(case hp=>exact (Reps.one (show Kd.M (Kd.int .i64) _ _ _ 40 [.int .i64 40] from rfl) (Reps.one (show Kd.M (Kd.int .i64) _ _ _ 80 [.int .i64 80] from rfl) (Reps.none _ _))));intro Xs w14 qoK hb hg_ hnew_;clear hg_ hnew_;(first|rw [← quS.out] at qoK|(simp only [Int.reduceToNat] at qoK;rw [← quS.out] at qoK));have n0_:=Q0.mk (Kd.N_elder' (by (with_reducible repeat (first|apply Kd.N_alloc|apply Kd.N_drewN|apply Kd.N_drew));exact G1.out) (Kd.R_base qoK) hb);have n1_:=Q0.mk (Kd.R_lower (Kd.R_newM (M:=fun k_=>(w.heap.size≤k_)) qoK (Qh (by repeat (first|(with_reducible first|exact HB.out|apply Q3|apply Q1|apply Q6|refine Q5 ?_ JG.out)|exact HB.out))) (fun k_ h_=>h_)) (Qh (by repeat (first|(with_reducible first|exact HB.out|apply Q3|apply Q1|apply Q6|refine Q5 ?_ JG.out)|exact HB.out))));have n2_:=Q0.mk (Qg (g:=Zk) (by (with_reducible repeat (first|refine Q4 ?_ _|refine Q7 ?_|refine Q2 ?_ _));exact Zq.out) hb);have n3_:=Q0.mk (Qk (by repeat (first|(with_reducible first|exact HB.out|apply Q3|apply Q1|apply Q6|refine Q5 ?_ JG.out)|exact HB.out)) hb);clear G1 Zq HB;have G1:=n0_;have GL:=n1_;have Zq:=n2_;have HB:=n3_;clear n0_ n1_ n2_ n3_ hb qoK)|((with_reducible refine QZ (N:=5) rfl ?_);refine Kd.R_lit (Kd.int .i64) _ 3 ?hg (N:=5) ?hd (xs:=([90,80]:List Int)) (inner:=[.int .i64 90,.int .i64 80]) (ok:=fun _=>True) (okp:=fun _=>True) ?hr ?hp (fun _ hk=>hk) trivial (Below.refl _ _) (Nat.le_refl _) (by simp) ?_;(case hd=>rfl);(case hg=>rfl);(case hr=>first|(go_simp;done)|(go_simp;rfl));(case hp=>exact (Reps.one (show Kd.M (Kd.int .i64) _ _ _ 90 [.int .i64 90] from rfl) (Reps.one (show Kd.M (Kd.int .i64) _ _ _ 80 [.int .i64 80] from rfl) (Reps.none _ _))));intro qLL w16 qlN hb hg_ hnew_;clear hg_ hnew_;(first|rw [← quT.out] at qlN|(simp only [Int.reduceToNat] at qlN;rw [← quT.out] at qlN));have n0_:=Q0.mk (Kd.N_elder' (by (with_reducible repeat (first|apply Kd.N_alloc|apply Kd.N_drewN|apply Kd.N_drew));exact G1.out) (Kd.R_base qlN) hb);have n1_:=Q0.mk (Kd.R_elder' (by (with_reducible repeat (first|apply Kd.R_alloc|apply Kd.R_drewN|apply Kd.R_drew));exact GL.out) (Kd.R_base qlN) hb);have n2_:=Q0.mk (Kd.R_lower (Kd.R_new' (Kd.R_newM (M:=fun k_=>(w.heap.size≤k_)) qlN (Qh (by repeat (first|(with_reducible first|exact HB.out|apply Q3|apply Q1|apply Q6|refine Q5 ?_ JG.out)|exact HB.out))) (fun k_ h_=>h_)) (Kd.R_lt (by (with_reducible repeat (first|apply Kd.R_alloc|apply Kd.R_drewN|apply Kd.R_drew));exact GL.out))) (Qh (by repeat (first|(with_reducible first|exact HB.out|apply Q3|apply Q1|apply Q6|refine Q5 ?_ JG.out)|exact HB.out))));have n3_:=Q0.mk (Qg (g:=Zk) (by (with_reducible repeat (first|refine Q4 ?_ _|refine Q7 ?_|refine Q2 ?_ _));exact Zq.out) hb);have n4_:=Q0.mk (Qk (by repeat (first|(with_reducible first|exact HB.out|apply Q3|apply Q1|apply Q6|refine Q5 ?_ JG.out)|exact HB.out)) hb);clear G1 GL Zq HB;have G1:=n0_;have GL:=n1_;have qet:=n2_;have Zq:=n3_;have HB:=n4_;clear n0_ n1_ n2_ n3_ n4_ hb qlN)|((with_reducible refine QZ (N:=6) rfl ?_);refine Kd.R_lit (Kd.int .i64) _ 3 ?hg (N:=6) ?hd (xs:=([10,10]:List Int)) (inner:=[.int .i64 10,.int .i64 10]) (ok:=fun _=>True) (okp:=fun _=>True) ?hr ?hp (fun _ hk=>hk) trivial (Below.refl _ _) (Nat.le_refl _) (by simp) ?_;(case hd=>rfl);(case hg=>rfl);(case hr=>first|(go_simp;done)|(go_simp;rfl));(case hp=>exact (Reps.one (show Kd.M (Kd.int .i64) _ _ _ 10 [.int .i64 10] from rfl) (Reps.one (show Kd.M (Kd.int .i64) _ _ _ 10 [.int .i64 10] from rfl) (Reps.none _ _))));intro qLM w18 qj8 hb hg_ hnew_;clear hg_ hnew_;(first|rw [← quU.out] at qj8|(simp only [Int.reduceToNat] at qj8;rw [← quU.out] at qj8));have n0_:=Q0.mk (Kd.N_elder' (by (with_reducible repeat (first|apply Kd.N_alloc|apply Kd.N_drewN|apply Kd.N_drew));exact G1.out) (Kd.R_base qj8) hb);have n1_:=Q0.mk (Kd.R_elder' (by (with_reducible repeat (first|apply Kd.R_alloc|apply Kd.R_drewN|apply Kd.R_drew));exact GL.out) (Kd.R_base qj8) hb);have n2_:=Q0.mk (Kd.R_elder' (by (with_reducible repeat (first|apply Kd.R_alloc|apply Kd.R_drewN|apply Kd.R_drew));exact qet.out) (Kd.R_base qj8) hb);have n3_:=Q0.mk (Kd.R_lower (Kd.R_new' (Kd.R_new' (Kd.R_newM (M:=fun k_=>(w.heap.size≤k_)) qj8 (Qh (by repeat (first|(with_reducible first|exact HB.out|apply Q3|apply Q1|apply Q6|refine Q5 ?_ JG.out)|exact HB.out))) (fun k_ h_=>h_)) (Kd.R_lt (by (with_reducible repeat (first|apply Kd.R_alloc|apply Kd.R_drewN|apply Kd.R_drew));exact GL.out))) (Kd.R_lt (by (with_reducible repeat (first|apply Kd.R_alloc|apply Kd.R_drewN|apply Kd.R_drew));exact qet.out))) (Qh (by repeat (first|(with_reducible first|exact HB.out|apply Q3|apply Q1|apply Q6|refine Q5 ?_ JG.out)|exact HB.out))));have n4_:=Q0.mk (Qg (g:=Zk) (by (with_reducible repeat (first|refine Q4 ?_ _|refine Q7 ?_|refine Q2 ?_ _));exact Zq.out) hb);have n5_:=Q0.mk (Qk (by repeat (first|(with_reducible first|exact HB.out|apply Q3|apply Q1|apply Q6|refine Q5 ?_ JG.out)|exact HB.out)) hb);clear G1 GL qet Zq HB;have G1:=n0_;have GL:=n1_;have qet:=n2_;have qmX:=n3_;have Zq:=n4_;have HB:=n5_;clear n0_ n1_ n2_ n3_ n4_ n5_ hb qj8;obtain ⟨qxH,qyy,qHk⟩:=Kd.R_slice qet.out;subst qHk;obtain ⟨qxI,qyz,qHl⟩:=Kd.R_slice qmX.out;subst qHl)|((with_reducible refine QZ (N:=7) rfl ?_);refine Kd.N_lit (Kd.slice 3 (Kd.int .i64)) _ 37 ?hg (N':=7) ?hd (xs:=([qmL,qpg]:List (List Int))) (inner:=[.slice qxH qmL.length qyy,.slice qxI qpg.length qyz]) (ok:=(fun k_=>(w.heap.size≤k_)∧some k_≠(Xr:Value).ownBlock∧some k_≠(Xs:Value).ownBlock∧k_≠Zk)) (okp:=(fun k_=>(w.heap.size≤k_)∧some k_≠(Xr:Value).ownBlock∧some k_≠(Xs:Value).ownBlock∧k_≠Zk)) ?hr ?hp (fun _ hk=>hk) ((show ∀ k_,w18.heap.size≤k_→(fun k_=>(w.heap.size≤k_)∧some k_≠(Xr:Value).ownBlock∧some k_≠(Xs:Value).ownBlock∧k_≠Zk) k_ from fun k_ hk=>⟨(Nat.le_trans (Qh (by repeat (first|(with_reducible first|exact HB.out|apply Q3|apply Q1|apply Q6|refine Q5 ?_ JG.out)|exact HB.out))) hk),Kd.fresh' (Kd.N_lt (by (with_reducible repeat (first|apply Kd.N_alloc|apply Kd.N_drewN|apply Kd.N_drew));exact G1.out)) k_ hk,Kd.fresh' (Kd.R_lt (by (with_reducible repeat (first|apply Kd.R_alloc|apply Kd.R_drewN|apply Kd.R_drew));exact GL.out)) k_ hk,Kd.freshB (g:=Zk) (by (with_reducible repeat (first|refine Q4 ?_ _|refine Q7 ?_|refine Q2 ?_ _));exact Zq.out) k_ hk⟩) _ (Nat.le_refl _)) (Below.refl _ _) (Nat.le_refl _) (by simp) ?_;(case hd=>rfl);(case hg=>rfl);(case hr=>first|(go_simp;done)|(go_simp;rfl));(case hp=>exact (Reps.one (show Kd.FK (Kd.slice 3 (Kd.int .i64)) _ _ qmL [.slice qxH qmL.length qyy] from (Kd.FK_slice_mk (Kd.R_reads' (Kd.R_mono (ok':=(fun k_=>(w.heap.size≤k_)∧some k_≠(Xr:Value).ownBlock∧some k_≠(Xs:Value).ownBlock∧k_≠Zk)) (Kd.R_types (Kd.R_apart' (qet.out) (Kd.N_typed G1.out) (by decide)) Zq.out (by decide)) (fun k_ hk=>⟨hk.1.1.1.1.1,⟨hk.1.2,⟨hk.1.1.1.2,hk.2⟩⟩⟩))).2.1 (Kd.R_F (Kd.R_mono (ok':=(fun k_=>(w.heap.size≤k_)∧some k_≠(Xr:Value).ownBlock∧some k_≠(Xs:Value).ownBlock∧k_≠Zk)) (Kd.R_types (Kd.R_apart' (qet.out) (Kd.N_typed G1.out) (by decide)) Zq.out (by decide)) (fun k_ hk=>⟨hk.1.1.1.1.1,⟨hk.1.2,⟨hk.1.1.1.2,hk.2⟩⟩⟩))))) (Reps.one (show Kd.FK (Kd.slice 3 (Kd.int .i64)) _ _ qpg [.slice qxI qpg.length qyz] from (Kd.FK_slice_mk (Kd.R_reads' (Kd.R_mono (ok':=(fun k_=>(w.heap.size≤k_)∧some k_≠(Xr:Value).ownBlock∧some k_≠(Xs:Value).ownBlock∧k_≠Zk)) (Kd.R_types (Kd.R_apart' (qmX.out) (Kd.N_typed G1.out) (by decide)) Zq.out (by decide)) (fun k_ hk=>⟨hk.1.1.1.1.1,⟨hk.1.2,⟨hk.1.1.1.2,hk.2⟩⟩⟩))).2.1 (Kd.R_F (Kd.R_mono (ok':=(fun k_=>(w.heap.size≤k_)∧some k_≠(Xr:Value).ownBlock∧some k_≠(Xs:Value).ownBlock∧k_≠Zk)) (Kd.R_types (Kd.R_apart' (qmX.out) (Kd.N_typed G1.out) (by decide)) Zq.out (by decide)) (fun k_ hk=>⟨hk.1.1.1.1.1,⟨hk.1.2,⟨hk.1.1.1.2,hk.2⟩⟩⟩))))) (Reps.none _ _))));intro qmC w22 qoL hb hg_ hnew_;clear hg_ hnew_;(first|rw [← quV.out] at qoL|(simp only [Int.reduceToNat] at qoL;rw [← quV.out] at qoL));have n0_:=Q0.mk (Kd.N_elder' (by (with_reducible repeat (first|apply Kd.N_alloc|apply Kd.N_drewN|apply Kd.N_drew));exact G1.out) (Kd.N_base qoL) hb);have n1_:=Q0.mk (Kd.R_below (by (with_reducible repeat (first|apply Kd.R_alloc|apply Kd.R_drewN|apply Kd.R_drew));exact GL.out) hb);have n2_:=Q0.mk (Kd.N_lower qoL (Qh (by repeat (first|(with_reducible first|exact HB.out|apply Q3|apply Q1|apply Q6|refine Q5 ?_ JG.out)|exact HB.out))));have n3_:=Q0.mk (Qg (g:=Zk) (by (with_reducible repeat (first|refine Q4 ?_ _|refine Q7 ?_|refine Q2 ?_ _));exact Zq.out) hb);have n4_:=Q0.mk (Qk (by repeat (first|(with_reducible first|exact HB.out|apply Q3|apply Q1|apply Q6|refine Q5 ?_ JG.out)|exact HB.out)) hb);clear G1 GL Zq HB qet qmX;have G1:=n0_;have GL:=n1_;have U6:=n2_;have Zq:=n3_;have HB:=n4_;clear n0_ n1_ n2_ n3_ n4_ hb qoL)|((with_reducible refine QZ (N:=8) rfl ?_);refine Kd.R_lit (Kd.int .i64) _ 3 ?hg (N:=8) ?hd (xs:=([0,0]:List Int)) (inner:=[.int .i64 0,.int .i64 0]) (ok:=fun _=>True) (okp:=fun _=>True) ?hr ?hp (fun _ hk=>hk) trivial (Below.refl _ _) (Nat.le_refl _) (by simp) ?_;(case hd=>rfl);(case hg=>rfl);(case hr=>first|(go_simp;done)|(go_simp;rfl));(case hp=>exact (Reps.one (show Kd.M (Kd.int .i64) _ _ _ 0 [.int .i64 0] from rfl) (Reps.one (show Kd.M (Kd.int .i64) _ _ _ 0 [.int .i64 0] from rfl) (Reps.none _ _))));intro qLN w24 qj9 hb hg_ hnew_;clear hg_ hnew_;(first|rw [← quW.out] at qj9|(simp only [Int.reduceToNat] at qj9;rw [← quW.out] at qj9));have n0_:=Q0.mk (Kd.N_elder' (by (with_reducible repeat (first|apply Kd.N_alloc|apply Kd.N_drewN|apply Kd.N_drew));exact G1.out) (Kd.R_base qj9) hb);have n1_:=Q0.mk (Kd.R_elder' (by (with_reducible repeat (first|apply Kd.R_alloc|apply Kd.R_drewN|apply Kd.R_drew));exact GL.out) (Kd.R_base qj9) hb);have n2_:=Q0.mk (Kd.N_elder' (by (with_reducible repeat (first|apply Kd.N_alloc|apply Kd.N_drewN|apply Kd.N_drew));exact U6.out) (Kd.R_base qj9) hb);have n3_:=Q0.mk (Kd.R_lower (Kd.R_new' (Kd.R_newM (M:=fun k_=>(w.heap.size≤k_)) qj9 (Qh (by repeat (first|(with_reducible first|exact HB.out|apply Q3|apply Q1|apply Q6|refine Q5 ?_ JG.out)|exact HB.out))) (fun k_ h_=>h_)) (Kd.R_lt (by (with_reducible repeat (first|apply Kd.R_alloc|apply Kd.R_drewN|apply Kd.R_drew));exact GL.out))) (Qh (by repeat (first|(with_reducible first|exact HB.out|apply Q3|apply Q1|apply Q6|refine Q5 ?_ JG.out)|exact HB.out))));have n4_:=Q0.mk (Qg (g:=Zk) (by (with_reducible repeat (first|refine Q4 ?_ _|refine Q7 ?_|refine Q2 ?_ _));exact Zq.out) hb);have n5_:=Q0.mk (Qk (by repeat (first|(with_reducible first|exact HB.out|apply Q3|apply Q1|apply Q6|refine Q5 ?_ JG.out)|exact HB.out)) hb);clear G1 GL U6 Zq HB;have G1:=n0_;have GL:=n1_;have U6:=n2_;have qeu:=n3_;have Zq:=n4_;have HB:=n5_;clear n0_ n1_ n2_ n3_ n4_ n5_ hb qj9)|((with_reducible refine QZ (N:=9) rfl ?_);refine Kd.R_lit (Kd.int .i64) _ 3 ?hg (N:=9) ?hd (xs:=([0,0]:List Int)) (inner:=[.int .i64 0,.int .i64 0]) (ok:=fun _=>True) (okp:=fun _=>True) ?hr ?hp (fun _ hk=>hk) trivial (Below.refl _ _) (Nat.le_refl _) (by simp) ?_;(case hd=>rfl);(case hg=>rfl);(case hr=>first|(go_simp;done)|(go_simp;rfl));(case hp=>exact (Reps.one (show Kd.M (Kd.int .i64) _ _ _ 0 [.int .i64 0] from rfl) (Reps.one (show Kd.M (Kd.int .i64) _ _ _ 0 [.int .i64 0] from rfl) (Reps.none _ _))));intro qLO w26 qiN hb hg_ hnew_;clear hg_ hnew_;(first|rw [← quX.out] at qiN|(simp only [Int.reduceToNat] at qiN;rw [← quX.out] at qiN));have n0_:=Q0.mk (Kd.N_elder' (by (with_reducible repeat (first|apply Kd.N_alloc|apply Kd.N_drewN|apply Kd.N_drew));exact G1.out) (Kd.R_base qiN) hb);have n1_:=Q0.mk (Kd.R_elder' (by (with_reducible repeat (first|apply Kd.R_alloc|apply Kd.R_drewN|apply Kd.R_drew));exact GL.out) (Kd.R_base qiN) hb);have n2_:=Q0.mk (Kd.N_elder' (by (with_reducible repeat (first|apply Kd.N_alloc|apply Kd.N_drewN|apply Kd.N_drew));exact U6.out) (Kd.R_base qiN) hb);have n3_:=Q0.mk (Kd.R_elder' (by (with_reducible repeat (first|apply Kd.R_alloc|apply Kd.R_drewN|apply Kd.R_drew));exact qeu.out) (Kd.R_base qiN) hb);have n4_:=Q0.mk (Kd.R_lower (Kd.R_new' (Kd.R_new' (Kd.R_newM (M:=fun k_=>(w.heap.size≤k_)) qiN (Qh (by repeat (first|(with_reducible first|exact HB.out|apply Q3|apply Q1|apply Q6|refine Q5 ?_ JG.out)|exact HB.out))) (fun k_ h_=>h_)) (Kd.R_lt (by (with_reducible repeat (first|apply Kd.R_alloc|apply Kd.R_drewN|apply Kd.R_drew));exact GL.out))) (Kd.R_lt (by (with_reducible repeat (first|apply Kd.R_alloc|apply Kd.R_drewN|apply Kd.R_drew));exact qeu.out))) (Qh (by repeat (first|(with_reducible first|exact HB.out|apply Q3|apply Q1|apply Q6|refine Q5 ?_ JG.out)|exact HB.out))));have n5_:=Q0.mk (Qg (g:=Zk) (by (with_reducible repeat (first|refine Q4 ?_ _|refine Q7 ?_|refine Q2 ?_ _));exact Zq.out) hb);have n6_:=Q0.mk (Qk (by repeat (first|(with_reducible first|exact HB.out|apply Q3|apply Q1|apply Q6|refine Q5 ?_ JG.out)|exact HB.out)) hb);clear G1 GL U6 qeu Zq HB;have G1:=n0_;have GL:=n1_;have U6:=n2_;have qeu:=n3_;have qmY:=n4_;have Zq:=n5_;have HB:=n6_;clear n0_ n1_ n2_ n3_ n4_ n5_ n6_ hb qiN;obtain ⟨qxK,qyB,qHm⟩:=Kd.R_slice qeu.out;subst qHm;obtain ⟨qxL,qyC,qHn⟩:=Kd.R_slice qmY.out;subst qHn)|((with_reducible refine QZ (N:=10) rfl ?_);refine Kd.N_lit (Kd.slice 3 (Kd.int .i64)) _ 37 ?hg (N':=10) ?hd (xs:=([qmM,qph]:List (List Int))) (inner:=[.slice qxK qmM.length qyB,.slice qxL qph.length qyC]) (ok:=(fun k_=>(w.heap.size≤k_)∧some k_≠(Xr:Value).ownBlock∧some k_≠(Xs:Value).ownBlock∧some k_≠(qmC:Value).ownBlock∧k_≠Zk)) (okp:=(fun k_=>(w.heap.size≤k_)∧some k_≠(Xr:Value).ownBlock∧some k_≠(Xs:Value).ownBlock∧some k_≠(qmC:Value).ownBlock∧k_≠Zk)) ?hr ?hp (fun _ hk=>hk) ((show ∀ k_,w26.heap.size≤k_→(fun k_=>(w.heap.size≤k_)∧some k_≠(Xr:Value).ownBlock∧some k_≠(Xs:Value).ownBlock∧some k_≠(qmC:Value).ownBlock∧k_≠Zk) k_ from fun k_ hk=>⟨(Nat.le_trans (Qh (by repeat (first|(with_reducible first|exact HB.out|apply Q3|apply Q1|apply Q6|refine Q5 ?_ JG.out)|exact HB.out))) hk),Kd.fresh' (Kd.N_lt (by (with_reducible repeat (first|apply Kd.N_alloc|apply Kd.N_drewN|apply Kd.N_drew));exact G1.out)) k_ hk,Kd.fresh' (Kd.R_lt (by (with_reducible repeat (first|apply Kd.R_alloc|apply Kd.R_drewN|apply Kd.R_drew));exact GL.out)) k_ hk,Kd.fresh' (Kd.N_lt (by (with_reducible repeat (first|apply Kd.N_alloc|apply Kd.N_drewN|apply Kd.N_drew));exact U6.out)) k_ hk,Kd.freshB (g:=Zk) (by (with_reducible repeat (first|refine Q4 ?_ _|refine Q7 ?_|refine Q2 ?_ _));exact Zq.out) k_ hk⟩) _ (Nat.le_refl _)) (Below.refl _ _) (Nat.le_refl _) (by simp) ?_;(case hd=>rfl);(case hg=>rfl);(case hr=>first|(go_simp;done)|(go_simp;rfl));(case hp=>exact (Reps.one (show Kd.FK (Kd.slice 3 (Kd.int .i64)) _ _ qmM [.slice qxK qmM.length qyB] from (Kd.FK_slice_mk (Kd.R_reads' (Kd.R_mono (ok':=(fun k_=>(w.heap.size≤k_)∧some k_≠(Xr:Value).ownBlock∧some k_≠(Xs:Value).ownBlock∧some k_≠(qmC:Value).ownBlock∧k_≠Zk)) (Kd.R_types (Kd.R_apart' (Kd.R_apart' (qeu.out) (Kd.N_typed G1.out) (by decide)) (Kd.N_typed U6.out) (by decide)) Zq.out (by decide)) (fun k_ hk=>⟨hk.1.1.1.1.1.1,⟨hk.1.1.2,⟨hk.1.1.1.1.2,⟨hk.1.2,hk.2⟩⟩⟩⟩))).2.1 (Kd.R_F (Kd.R_mono (ok':=(fun k_=>(w.heap.size≤k_)∧some k_≠(Xr:Value).ownBlock∧some k_≠(Xs:Value).ownBlock∧some k_≠(qmC:Value).ownBlock∧k_≠Zk)) (Kd.R_types (Kd.R_apart' (Kd.R_apart' (qeu.out) (Kd.N_typed G1.out) (by decide)) (Kd.N_typed U6.out) (by decide)) Zq.out (by decide)) (fun k_ hk=>⟨hk.1.1.1.1.1.1,⟨hk.1.1.2,⟨hk.1.1.1.1.2,⟨hk.1.2,hk.2⟩⟩⟩⟩))))) (Reps.one (show Kd.FK (Kd.slice 3 (Kd.int .i64)) _ _ qph [.slice qxL qph.length qyC] from (Kd.FK_slice_mk (Kd.R_reads' (Kd.R_mono (ok':=(fun k_=>(w.heap.size≤k_)∧some k_≠(Xr:Value).ownBlock∧some k_≠(Xs:Value).ownBlock∧some k_≠(qmC:Value).ownBlock∧k_≠Zk)) (Kd.R_types (Kd.R_apart' (Kd.R_apart' (qmY.out) (Kd.N_typed G1.out) (by decide)) (Kd.N_typed U6.out) (by decide)) Zq.out (by decide)) (fun k_ hk=>⟨hk.1.1.1.1.1.1,⟨hk.1.1.2,⟨hk.1.1.1.1.2,⟨hk.1.2,hk.2⟩⟩⟩⟩))).2.1 (Kd.R_F (Kd.R_mono (ok':=(fun k_=>(w.heap.size≤k_)∧some k_≠(Xr:Value).ownBlock∧some k_≠(Xs:Value).ownBlock∧some k_≠(qmC:Value).ownBlock∧k_≠Zk)) (Kd.R_types (Kd.R_apart' (Kd.R_apart' (qmY.out) (Kd.N_typed G1.out) (by decide)) (Kd.N_typed U6.out) (by decide)) Zq.out (by decide)) (fun k_ hk=>⟨hk.1.1.1.1.1.1,⟨hk.1.1.2,⟨hk.1.1.1.1.2,⟨hk.1.2,hk.2⟩⟩⟩⟩))))) (Reps.none _ _))));intro qLP w30 qlO hb hg_ hnew_;clear hg_ hnew_;(first|rw [← quY.out] at qlO|(simp only [Int.reduceToNat] at qlO;rw [← quY.out] at qlO));have n0_:=Q0.mk (Kd.N_elder' (by (with_reducible repeat (first|apply Kd.N_alloc|apply Kd.N_drewN|apply Kd.N_drew));exact G1.out) (Kd.N_base qlO) hb);have n1_:=Q0.mk (Kd.R_below (by (with_reducible repeat (first|apply Kd.R_alloc|apply Kd.R_drewN|apply Kd.R_drew));exact GL.out) hb);have n2_:=Q0.mk (Kd.N_elder' (by (with_reducible repeat (first|apply Kd.N_alloc|apply Kd.N_drewN|apply Kd.N_drew));exact U6.out) (Kd.N_base qlO) hb);have n3_:=Q0.mk (Kd.N_lower qlO (Qh (by repeat (first|(with_reducible first|exact HB.out|apply Q3|apply Q1|apply Q6|refine Q5 ?_ JG.out)|exact HB.out))));have n4_:=Q0.mk (Qg (g:=Zk) (by (with_reducible repeat (first|refine Q4 ?_ _|refine Q7 ?_|refine Q2 ?_ _));exact Zq.out) hb);have n5_:=Q0.mk (Qk (by repeat (first|(with_reducible first|exact HB.out|apply Q3|apply Q1|apply Q6|refine Q5 ?_ JG.out)|exact HB.out)) hb);clear G1 GL U6 Zq HB qeu qmY;have G1:=n0_;have GL:=n1_;have U6:=n2_;have qmZ:=n3_;have Zq:=n4_;have HB:=n5_;clear n0_ n1_ n2_ n3_ n4_ n5_ hb qlO;obtain ⟨qxM,qyD,qHo⟩:=Kd.N_slice U6.out;subst qHo;obtain ⟨qxN,qyE,qHp⟩:=Kd.N_slice qmZ.out;subst qHp)|((with_reducible refine QZ (N:=11) rfl ?_);refine Kd.N_lit (Kd.slice 37 (Kd.slice 3 (Kd.int .i64))) _ 63 ?hg (N':=11) ?hd (xs:=([qjC,qpi]:List (List (List Int)))) (inner:=[.slice qxM qjC.length qyD,.slice qxN qpi.length qyE]) (ok:=(fun k_=>(w.heap.size≤k_)∧some k_≠(Xr:Value).ownBlock∧some k_≠(Xs:Value).ownBlock∧k_≠Zk)) (okp:=(fun k_=>(w.heap.size≤k_)∧some k_≠(Xr:Value).ownBlock∧some k_≠(Xs:Value).ownBlock∧k_≠Zk)) ?hr ?hp (fun _ hk=>hk) ((show ∀ k_,w30.heap.size≤k_→(fun k_=>(w.heap.size≤k_)∧some k_≠(Xr:Value).ownBlock∧some k_≠(Xs:Value).ownBlock∧k_≠Zk) k_ from fun k_ hk=>⟨(Nat.le_trans (Qh (by repeat (first|(with_reducible first|exact HB.out|apply Q3|apply Q1|apply Q6|refine Q5 ?_ JG.out)|exact HB.out))) hk),Kd.fresh' (Kd.N_lt (by (with_reducible repeat (first|apply Kd.N_alloc|apply Kd.N_drewN|apply Kd.N_drew));exact G1.out)) k_ hk,Kd.fresh' (Kd.R_lt (by (with_reducible repeat (first|apply Kd.R_alloc|apply Kd.R_drewN|apply Kd.R_drew));exact GL.out)) k_ hk,Kd.freshB (g:=Zk) (by (with_reducible repeat (first|refine Q4 ?_ _|refine Q7 ?_|refine Q2 ?_ _));exact Zq.out) k_ hk⟩) _ (Nat.le_refl _)) (Below.refl _ _) (Nat.le_refl _) (by simp) ?_;(case hd=>rfl);(case hg=>rfl);(case hr=>first|(go_simp;done)|(go_simp;rfl));(case hp=>exact (Reps.one (show Kd.FK (Kd.slice 37 (Kd.slice 3 (Kd.int .i64))) _ _ qjC [.slice qxM qjC.length qyD] from (Kd.FK_slice_mk (Kd.N_reads' (Kd.N_mono (ok':=(fun k_=>(w.heap.size≤k_)∧some k_≠(Xr:Value).ownBlock∧some k_≠(Xs:Value).ownBlock∧k_≠Zk)) (U6.out) (fun k_ hk=>⟨hk.1.1.1.1,⟨hk.1.1.1.2.1,⟨hk.1.1.1.2.2.1,hk.1.1.1.2.2.2⟩⟩⟩))).2.1 (Kd.N_F (Kd.N_mono (ok':=(fun k_=>(w.heap.size≤k_)∧some k_≠(Xr:Value).ownBlock∧some k_≠(Xs:Value).ownBlock∧k_≠Zk)) (U6.out) (fun k_ hk=>⟨hk.1.1.1.1,⟨hk.1.1.1.2.1,⟨hk.1.1.1.2.2.1,hk.1.1.1.2.2.2⟩⟩⟩))))) (Reps.one (show Kd.FK (Kd.slice 37 (Kd.slice 3 (Kd.int .i64))) _ _ qpi [.slice qxN qpi.length qyE] from (Kd.FK_slice_mk (Kd.N_reads' (Kd.N_mono (ok':=(fun k_=>(w.heap.size≤k_)∧some k_≠(Xr:Value).ownBlock∧some k_≠(Xs:Value).ownBlock∧k_≠Zk)) (qmZ.out) (fun k_ hk=>⟨hk.1,⟨hk.2.1,⟨hk.2.2.1,hk.2.2.2.2⟩⟩⟩))).2.1 (Kd.N_F (Kd.N_mono (ok':=(fun k_=>(w.heap.size≤k_)∧some k_≠(Xr:Value).ownBlock∧some k_≠(Xs:Value).ownBlock∧k_≠Zk)) (qmZ.out) (fun k_ hk=>⟨hk.1,⟨hk.2.1,⟨hk.2.2.1,hk.2.2.2.2⟩⟩⟩))))) (Reps.none _ _))));intro qLQ w34 qoM hb hg_ hnew_;clear hg_ hnew_;(first|rw [← quZ.out] at qoM|(simp only [Int.reduceToNat] at qoM;rw [← quZ.out] at qoM));have n0_:=Q0.mk (Kd.N_elder' (by (with_reducible repeat (first|apply Kd.N_alloc|apply Kd.N_drewN|apply Kd.N_drew));exact G1.out) (Kd.N_base qoM) hb);have n1_:=Q0.mk (Kd.R_below (by (with_reducible repeat (first|apply Kd.R_alloc|apply Kd.R_drewN|apply Kd.R_drew));exact GL.out) hb);have n2_:=Q0.mk (Kd.N_lower qoM (Qh (by repeat (first|(with_reducible first|exact HB.out|apply Q3|apply Q1|apply Q6|refine Q5 ?_ JG.out)|exact HB.out))));have n3_:=Q0.mk (Qg (g:=Zk) (by (with_reducible repeat (first|refine Q4 ?_ _|refine Q7 ?_|refine Q2 ?_ _));exact Zq.out) hb);have n4_:=Q0.mk (Qk (by repeat (first|(with_reducible first|exact HB.out|apply Q3|apply Q1|apply Q6|refine Q5 ?_ JG.out)|exact HB.out)) hb);clear G1 GL Zq HB U6 qmZ;have G1:=n0_;have GL:=n1_;have quJ:=n2_;have Zq:=n3_;have HB:=n4_;clear n0_ n1_ n2_ n3_ n4_ hb qoM;obtain ⟨qrX,qsE,qHq⟩:=Kd.N_slice quJ.out;subst qHq;obtain ⟨qpw,qqk,qHr⟩:=Kd.R_slice GL.out;subst qHr;obtain ⟨qon,qox,qHs⟩:=Kd.N_slice G1.out;subst qHs;have W8:w34.cell? ⟨Zk,0,none⟩=some (.slice none 0 0):=(Q9 Zq.out 0).trans rfl;have W9:w34.cell? ⟨Zk,1,none⟩=some (.slice none 0 0):=(Q9 Zq.out 1).trans rfl;have Wa:w34.cell? ⟨Zk,2,none⟩=some (.slice none 0 0):=(Q9 Zq.out 2).trans rfl;have Wh:=Q8 Zq.out 0;have Wi:=Q8 Zq.out 1;have Wj:=Q8 Zq.out 2))
 refine bodyPost_ret (results_cell_row rfl _ _ Zk 47 #[.slice qon qcF.length qox,.slice qpw qeq.length qqk,.slice qrX qrN.length qsE] (0,0) _ rfl (by (with_reducible repeat (first|refine Q4 ?_ _|refine Q7 ?_|refine Q2 ?_ _));refine QI (cs:=#[.slice qon qcF.length qox,.slice qpw qeq.length qqk,.slice none 0 0]) ?_ 2 _ rfl;(with_reducible repeat (first|refine Q4 ?_ _|refine Q7 ?_|refine Q2 ?_ _));refine QI (cs:=#[.slice qon qcF.length qox,.slice none 0 0,.slice none 0 0]) ?_ 1 _ rfl;(with_reducible repeat (first|refine Q4 ?_ _|refine Q7 ?_|refine Q2 ?_ _));refine QI (cs:=#[.slice none 0 0,.slice none 0 0,.slice none 0 0]) ?_ 0 _ rfl;(with_reducible repeat (first|refine Q4 ?_ _|refine Q7 ?_|refine Q2 ?_ _));exact Zq.out) Try.underlying47 rfl (by kernel_rfl)) rfl ?_
 exact ⟨_,_,_,by first|rfl|(simp [Qz,QA]<;>rfl)|(simp [*,Qz,QA]<;>rfl),by (with_reducible repeat (first|apply Kd.N_alloc|apply Kd.N_drewN|apply Kd.N_drew));exact Kd.N_mono (Kd.N_far (p:=⟨Zk,2,none⟩) (Kd.N_far (p:=⟨Zk,1,none⟩) (Kd.N_far (p:=⟨Zk,0,none⟩) (Kd.N_mono G1.out (fun k_ hk=>(⟨hk,hk.1.1.1.1.1.1.1.1.2⟩:_∧k_≠Zk))) (fun _ hk=>hk.2) (.slice qon qcF.length qox)) (fun _ hk=>hk.2) (.slice qpw qeq.length qqk)) (fun _ hk=>hk.2) (.slice qrX qrN.length qsE)) (fun _ hk=>⟨hk.1.1.1.1.1.1.1.1.1.1,⟨hk.1.1.1.1.1.1.1.1.2,hk.1.2⟩⟩),by (with_reducible repeat (first|apply Kd.R_alloc|apply Kd.R_drewN|apply Kd.R_drew));exact Kd.R_mono (Kd.R_far (p:=⟨Zk,2,none⟩) (Kd.R_far (p:=⟨Zk,1,none⟩) (Kd.R_far (p:=⟨Zk,0,none⟩) (Kd.R_types GL.out Zq.out (by decide)) (fun _ hk=>hk.2) (.slice qon qcF.length qox)) (fun _ hk=>hk.2) (.slice qpw qeq.length qqk)) (fun _ hk=>hk.2) (.slice qrX qrN.length qsE)) (fun _ hk=>hk.1.1.1.1.1.1),by (with_reducible repeat (first|apply Kd.N_alloc|apply Kd.N_drewN|apply Kd.N_drew));exact Kd.N_mono (Kd.N_far (p:=⟨Zk,2,none⟩) (Kd.N_far (p:=⟨Zk,1,none⟩) (Kd.N_far (p:=⟨Zk,0,none⟩) (Kd.N_mono quJ.out (fun k_ hk=>(⟨hk,hk.2.2.2⟩:_∧k_≠Zk))) (fun _ hk=>hk.2) (.slice qon qcF.length qox)) (fun _ hk=>hk.2) (.slice qpw qeq.length qqk)) (fun _ hk=>hk.2) (.slice qrX qrN.length qsE)) (fun _ hk=>⟨hk.1.1,⟨hk.1.2.1,hk.1.2.2.1⟩⟩),by repeat (first|(with_reducible first|exact HB.out|apply Q3|apply Q1|apply Q6|refine Q5 ?_ JG.out)|exact HB.out)⟩
end
section
attribute [local go_sem] Yv Yx YJ YK Yl Ym Yw Yy
def GV.f  : Option ((List (S68))):=(QN.f 2 2).bind fun qjV=>((QN.f 3 4).bind fun qex=>((QN.f 4 6).bind fun qa6=>(some (([(⟨30,(⟨qjV.1,qjV.2⟩:S25)⟩:S68),(⟨20,(⟨qex.1,qex.2⟩:S25)⟩:S68),(⟨10,(⟨qa6.1,qa6.2⟩:S25)⟩:S68)]:List (S68))))))
set_option maxHeartbeats 8000000 in
set_option maxRecDepth 100000 in
theorem GV.calls  (r:List (S68)) (w:World) (h:GV.f  = some r) :
  Calls Try.prog 59 #[] w fun e w' => ∃ v0_:Value,e = .returned (v0_)∧Kd.R k68 68 w' w.heap.size (fun _=>True) v0_ r∧Below w.heap.size w w':=by
 have qIa:=Try.underlying68
 have HB:=Q0.mk (Below.refl w.heap.size w)
 have H:((QN.f 2 2).bind fun qjV=>((QN.f 3 4).bind fun qex=>((QN.f 4 6).bind fun qa6=>(some (([(⟨30,(⟨qjV.1,qjV.2⟩:S25)⟩:S68),(⟨20,(⟨qex.1,qex.2⟩:S25)⟩:S68),(⟨10,(⟨qa6.1,qa6.2⟩:S25)⟩:S68)]:List (S68)))))))=some r:=h
 clear h
 replace H:=Option.bind_eq_some_iff.mp H
 obtain ⟨⟨qhe,qhf⟩,A10,H⟩:=H
 replace H:((QN.f 3 4).bind fun qex=>((QN.f 4 6).bind fun qa6=>(some (([(⟨30,(⟨qhe,qhf⟩:S25)⟩:S68),(⟨20,(⟨qex.1,qex.2⟩:S25)⟩:S68),(⟨10,(⟨qa6.1,qa6.2⟩:S25)⟩:S68)]:List (S68))))))=some r:=H
 have A1:=Q0.mk A10
 clear A10
 replace H:=Option.bind_eq_some_iff.mp H
 obtain ⟨⟨qi9,qja⟩,A20,H⟩:=H
 replace H:((QN.f 4 6).bind fun qa6=>(some (([(⟨30,(⟨qhe,qhf⟩:S25)⟩:S68),(⟨20,(⟨qi9,qja⟩:S25)⟩:S68),(⟨10,(⟨qa6.1,qa6.2⟩:S25)⟩:S68)]:List (S68)))))=some r:=H
 have A2:=Q0.mk A20
 clear A20
 replace H:=Option.bind_eq_some_iff.mp H
 obtain ⟨⟨qk0,qk1⟩,A30,H⟩:=H
 replace H:(some (([(⟨30,(⟨qhe,qhf⟩:S25)⟩:S68),(⟨20,(⟨qi9,qja⟩:S25)⟩:S68),(⟨10,(⟨qk0,qk1⟩:S25)⟩:S68)]:List (S68))))=some r:=H
 have A3:=Q0.mk A30
 clear A30
 obtain ⟨qIj,qkr⟩:∃ y_:List (S68),y_=(([(⟨30,(⟨qhe,qhf⟩:S25)⟩:S68),(⟨20,(⟨qi9,qja⟩:S25)⟩:S68),(⟨10,(⟨qk0,qk1⟩:S25)⟩:S68)]:List (S68))):=⟨_,rfl⟩
 replace H:(some qIj)=some r:=by first|(rw [qkr];with_reducible exact H)|(have H2_:=(Option.bind_some _ _).symm.trans H;rw [qkr];with_reducible exact H2_)|(have H2_:=(Option.bind_some _ _).symm.trans H;with_reducible exact H2_)|with_reducible exact H|(rw [qkr];exact H)|exact H
 have qu0:=Q0.mk qkr
 clear qkr
 obtain rfl:=Option.some.inj H
 go_enter Try.func59,Try.ntmps59
 go_wp2_with (first|((with_reducible refine QG (f:=43) rfl ?_);refine YF (some 1) rfl rfl Try.func43 (by kernel_rfl) rfl #[.int .i64 2,.int .i64 2] rfl (by (try simp only [List.map_toArray,List.map_cons,List.map_nil]);first|done|rfl|(simp only [List.length_drop,List.length_take];rfl)) ?_;(with_reducible refine (QN.calls 2 2 qhe qhf _ A1.out).mono ?_);rintro e w4 ⟨rfl,hb⟩;refine ⟨_,rfl,?_⟩;have n0_:=Q0.mk (Qk (by repeat (first|(with_reducible first|exact HB.out|apply Q3|apply Q1|apply Q6)|exact HB.out)) hb);clear HB;have HB:=n0_;clear n0_;(try clear hb);(try clear hb2);(try clear hk);(try clear hi))|((with_reducible refine QG (f:=43) rfl ?_);refine YF (some 3) rfl rfl Try.func43 (by kernel_rfl) rfl #[.int .i64 3,.int .i64 4] rfl (by (try simp only [List.map_toArray,List.map_cons,List.map_nil]);first|done|rfl|(simp only [List.length_drop,List.length_take];rfl)) ?_;(with_reducible refine (QN.calls 3 4 qi9 qja _ A2.out).mono ?_);rintro e w5 ⟨rfl,hb⟩;refine ⟨_,rfl,?_⟩;have n0_:=Q0.mk (Qk (by repeat (first|(with_reducible first|exact HB.out|apply Q3|apply Q1|apply Q6)|exact HB.out)) hb);clear HB;have HB:=n0_;clear n0_;(try clear hb);(try clear hb2);(try clear hk);(try clear hi))|((with_reducible refine QG (f:=43) rfl ?_);refine YF (some 5) rfl rfl Try.func43 (by kernel_rfl) rfl #[.int .i64 4,.int .i64 6] rfl (by (try simp only [List.map_toArray,List.map_cons,List.map_nil]);first|done|rfl|(simp only [List.length_drop,List.length_take];rfl)) ?_;(with_reducible refine (QN.calls 4 6 qk0 qk1 _ A3.out).mono ?_);rintro e w6 ⟨rfl,hb⟩;refine ⟨_,rfl,?_⟩;have n0_:=Q0.mk (Qk (by repeat (first|(with_reducible first|exact HB.out|apply Q3|apply Q1|apply Q6)|exact HB.out)) hb);clear HB;have HB:=n0_;clear n0_;(try clear hb);(try clear hb2);(try clear hk);(try clear hi))|((with_reducible refine QZ (N:=7) rfl ?_);refine Kd.R_lit k68 _ 68 ?hg (N:=7) ?hd (xs:=([(⟨30,(⟨qhe,qhf⟩:S25)⟩:S68),(⟨20,(⟨qi9,qja⟩:S25)⟩:S68),(⟨10,(⟨qk0,qk1⟩:S25)⟩:S68)]:List (S68))) (inner:=[.int .i64 30,.int .i64 qhe,.int .i64 qhf,.int .i64 20,.int .i64 qi9,.int .i64 qja,.int .i64 10,.int .i64 qk0,.int .i64 qk1]) (ok:=fun _=>True) (okp:=fun _=>True) ?hr ?hp (fun _ hk=>hk) trivial (Below.refl _ _) (Nat.le_refl _) (by simp) ?_;(case hd=>rfl);(case hg=>rfl);(case hr=>first|(go_simp;done)|(go_simp;rfl));(case hp=>exact (Reps.c3 (show Kd.M k68 _ _ _ (⟨30,(⟨qhe,qhf⟩:S25)⟩:S68) [.int .i64 30,.int .i64 qhe,.int .i64 qhf] from (qiR _ _ _ (⟨30,(⟨qhe,qhf⟩:S25)⟩:S68) )) (Reps.c3 (show Kd.M k68 _ _ _ (⟨20,(⟨qi9,qja⟩:S25)⟩:S68) [.int .i64 20,.int .i64 qi9,.int .i64 qja] from (qiR _ _ _ (⟨20,(⟨qi9,qja⟩:S25)⟩:S68) )) (Reps.c3 (show Kd.M k68 _ _ _ (⟨10,(⟨qk0,qk1⟩:S25)⟩:S68) [.int .i64 10,.int .i64 qk0,.int .i64 qk1] from (qiR _ _ _ (⟨10,(⟨qk0,qk1⟩:S25)⟩:S68) )) (Reps.none _ _)))));intro qLR w7 ho8 hb hg_ hnew_;clear hg_ hnew_;(first|rw [← qu0.out] at ho8|(simp only [Int.reduceToNat] at ho8;rw [← qu0.out] at ho8));have n0_:=Q0.mk (Kd.R_lower ho8 (Qh (by repeat (first|(with_reducible first|exact HB.out|apply Q3|apply Q1|apply Q6)|exact HB.out))));have n1_:=Q0.mk (Qk (by repeat (first|(with_reducible first|exact HB.out|apply Q3|apply Q1|apply Q6)|exact HB.out)) hb);clear HB;have qxY:=n0_;have HB:=n1_;clear n0_ n1_ hb ho8))
 go_ret
 exact ⟨_,by first|rfl|(simp [Qz,QA]<;>rfl)|(simp [*,Qz,QA]<;>rfl),by (with_reducible repeat (first|apply Kd.R_alloc|apply Kd.R_drewN|apply Kd.R_drew));exact qxY.out,by repeat (first|(with_reducible first|exact HB.out|apply Q3|apply Q1|apply Q6)|exact HB.out)⟩
end
section
attribute [local go_sem] Yv Yx YJ YK Yl Ym Yw Yy
def KV.f  : Option ((List (S25))):=(QN.f 45 50).bind fun qjW=>((QN.f 50 55).bind fun qey=>(some (([(⟨qjW.1,qjW.2⟩:S25),(⟨qey.1,qey.2⟩:S25)]:List (S25)))))
set_option maxHeartbeats 8000000 in
set_option maxRecDepth 100000 in
theorem KV.calls  (r:List (S25)) (w:World) (h:KV.f  = some r) :
  Calls Try.prog 60 #[] w fun e w' => ∃ v0_:Value,e = .returned (v0_)∧Kd.R k25 25 w' w.heap.size (fun _=>True) v0_ r∧Below w.heap.size w w':=by
 have HB:=Q0.mk (Below.refl w.heap.size w)
 have H:((QN.f 45 50).bind fun qjW=>((QN.f 50 55).bind fun qey=>(some (([(⟨qjW.1,qjW.2⟩:S25),(⟨qey.1,qey.2⟩:S25)]:List (S25))))))=some r:=h
 clear h
 replace H:=Option.bind_eq_some_iff.mp H
 obtain ⟨⟨qjb,qjc⟩,A10,H⟩:=H
 replace H:((QN.f 50 55).bind fun qey=>(some (([(⟨qjb,qjc⟩:S25),(⟨qey.1,qey.2⟩:S25)]:List (S25)))))=some r:=H
 have A1:=Q0.mk A10
 clear A10
 replace H:=Option.bind_eq_some_iff.mp H
 obtain ⟨⟨qk2,qk3⟩,A20,H⟩:=H
 replace H:(some (([(⟨qjb,qjc⟩:S25),(⟨qk2,qk3⟩:S25)]:List (S25))))=some r:=H
 have A2:=Q0.mk A20
 clear A20
 obtain ⟨qIk,qks⟩:∃ y_:List (S25),y_=(([(⟨qjb,qjc⟩:S25),(⟨qk2,qk3⟩:S25)]:List (S25))):=⟨_,rfl⟩
 replace H:(some qIk)=some r:=by first|(rw [qks];with_reducible exact H)|(have H2_:=(Option.bind_some _ _).symm.trans H;rw [qks];with_reducible exact H2_)|(have H2_:=(Option.bind_some _ _).symm.trans H;with_reducible exact H2_)|with_reducible exact H|(rw [qks];exact H)|exact H
 have qu1:=Q0.mk qks
 clear qks
 obtain rfl:=Option.some.inj H
 go_enter Try.func60,Try.ntmps60
 go_wp2_with (first|((with_reducible refine QG (f:=43) rfl ?_);refine YF (some 1) rfl rfl Try.func43 (by kernel_rfl) rfl #[.int .i64 45,.int .i64 50] rfl (by (try simp only [List.map_toArray,List.map_cons,List.map_nil]);first|done|rfl|(simp only [List.length_drop,List.length_take];rfl)) ?_;(with_reducible refine (QN.calls 45 50 qjb qjc _ A1.out).mono ?_);rintro e w3 ⟨rfl,hb⟩;refine ⟨_,rfl,?_⟩;have n0_:=Q0.mk (Qk (by repeat (first|(with_reducible first|exact HB.out|apply Q3|apply Q1|apply Q6)|exact HB.out)) hb);clear HB;have HB:=n0_;clear n0_;(try clear hb);(try clear hb2);(try clear hk);(try clear hi))|((with_reducible refine QG (f:=43) rfl ?_);refine YF (some 2) rfl rfl Try.func43 (by kernel_rfl) rfl #[.int .i64 50,.int .i64 55] rfl (by (try simp only [List.map_toArray,List.map_cons,List.map_nil]);first|done|rfl|(simp only [List.length_drop,List.length_take];rfl)) ?_;(with_reducible refine (QN.calls 50 55 qk2 qk3 _ A2.out).mono ?_);rintro e w4 ⟨rfl,hb⟩;refine ⟨_,rfl,?_⟩;have n0_:=Q0.mk (Qk (by repeat (first|(with_reducible first|exact HB.out|apply Q3|apply Q1|apply Q6)|exact HB.out)) hb);clear HB;have HB:=n0_;clear n0_;(try clear hb);(try clear hb2);(try clear hk);(try clear hi))|((with_reducible refine QZ (N:=3) rfl ?_);refine Kd.R_lit k25 _ 25 ?hg (N:=3) ?hd (xs:=([(⟨qjb,qjc⟩:S25),(⟨qk2,qk3⟩:S25)]:List (S25))) (inner:=[.int .i64 qjb,.int .i64 qjc,.int .i64 qk2,.int .i64 qk3]) (ok:=fun _=>True) (okp:=fun _=>True) ?hr ?hp (fun _ hk=>hk) trivial (Below.refl _ _) (Nat.le_refl _) (by simp) ?_;(case hd=>rfl);(case hg=>rfl);(case hr=>first|(go_simp;done)|(go_simp;rfl));(case hp=>exact (Reps.c2 (show Kd.M k25 _ _ _ (⟨qjb,qjc⟩:S25) [.int .i64 qjb,.int .i64 qjc] from (Wm _ _ _ (⟨qjb,qjc⟩:S25) )) (Reps.c2 (show Kd.M k25 _ _ _ (⟨qk2,qk3⟩:S25) [.int .i64 qk2,.int .i64 qk3] from (Wm _ _ _ (⟨qk2,qk3⟩:S25) )) (Reps.none _ _))));intro qLS w5 ho6 hb hg_ hnew_;clear hg_ hnew_;(first|rw [← qu1.out] at ho6|(simp only [Int.reduceToNat] at ho6;rw [← qu1.out] at ho6));have n0_:=Q0.mk (Kd.R_lower ho6 (Qh (by repeat (first|(with_reducible first|exact HB.out|apply Q3|apply Q1|apply Q6)|exact HB.out))));have n1_:=Q0.mk (Qk (by repeat (first|(with_reducible first|exact HB.out|apply Q3|apply Q1|apply Q6)|exact HB.out)) hb);clear HB;have qxZ:=n0_;have HB:=n1_;clear n0_ n1_ hb ho6))
 go_ret
 exact ⟨_,by first|rfl|(simp [Qz,QA]<;>rfl)|(simp [*,Qz,QA]<;>rfl),by (with_reducible repeat (first|apply Kd.R_alloc|apply Kd.R_drewN|apply Kd.R_drew));exact qxZ.out,by repeat (first|(with_reducible first|exact HB.out|apply Q3|apply Q1|apply Q6)|exact HB.out)⟩
end
section
attribute [local go_sem] Yv Yx YJ YK Yl Ym Yw Yy
def Ky.f  : Option ((List (List (S25)))):=(QN.f 60 70).bind fun qjX=>((QN.f 30 40).bind fun qez=>((QN.f 20 30).bind fun X0=>((QN.f 70 80).bind fun UJ=>(some (([(([(⟨qjX.1,qjX.2⟩:S25),(⟨qez.1,qez.2⟩:S25)]:List (S25))),(([(⟨X0.1,X0.2⟩:S25),(⟨UJ.1,UJ.2⟩:S25)]:List (S25)))]:List (List (S25))))))))
set_option maxHeartbeats 8000000 in
set_option maxRecDepth 100000 in
theorem Ky.calls  (r:List (List (S25))) (w:World) (h:Ky.f  = some r) :
  Calls Try.prog 61 #[] w fun e w' => ∃ v0_:Value,e = .returned (v0_)∧Kd.N (Kd.slice 25 k25) 32 w' w.heap.size (fun k_=>(w.heap.size≤k_)) v0_ r∧Below w.heap.size w w':=by
 have HB:=Q0.mk (Below.refl w.heap.size w)
 have H:((QN.f 60 70).bind fun qjX=>((QN.f 30 40).bind fun qez=>((QN.f 20 30).bind fun X0=>((QN.f 70 80).bind fun UJ=>(some (([(([(⟨qjX.1,qjX.2⟩:S25),(⟨qez.1,qez.2⟩:S25)]:List (S25))),(([(⟨X0.1,X0.2⟩:S25),(⟨UJ.1,UJ.2⟩:S25)]:List (S25)))]:List (List (S25)))))))))=some r:=h
 clear h
 replace H:=Option.bind_eq_some_iff.mp H
 obtain ⟨⟨qjd,qje⟩,A10,H⟩:=H
 replace H:((QN.f 30 40).bind fun qez=>((QN.f 20 30).bind fun X0=>((QN.f 70 80).bind fun UJ=>(some (([(([(⟨qjd,qje⟩:S25),(⟨qez.1,qez.2⟩:S25)]:List (S25))),(([(⟨X0.1,X0.2⟩:S25),(⟨UJ.1,UJ.2⟩:S25)]:List (S25)))]:List (List (S25))))))))=some r:=H
 have A1:=Q0.mk A10
 clear A10
 replace H:=Option.bind_eq_some_iff.mp H
 obtain ⟨⟨qk4,qk5⟩,A20,H⟩:=H
 replace H:((QN.f 20 30).bind fun X0=>((QN.f 70 80).bind fun UJ=>(some (([(([(⟨qjd,qje⟩:S25),(⟨qk4,qk5⟩:S25)]:List (S25))),(([(⟨X0.1,X0.2⟩:S25),(⟨UJ.1,UJ.2⟩:S25)]:List (S25)))]:List (List (S25)))))))=some r:=H
 have A2:=Q0.mk A20
 clear A20
 obtain ⟨qjD,qkt⟩:∃ y_:List (S25),y_=(([(⟨qjd,qje⟩:S25),(⟨qk4,qk5⟩:S25)]:List (S25))):=⟨_,rfl⟩
 replace H:((QN.f 20 30).bind fun X0=>((QN.f 70 80).bind fun UJ=>(some (([qjD,(([(⟨X0.1,X0.2⟩:S25),(⟨UJ.1,UJ.2⟩:S25)]:List (S25)))]:List (List (S25)))))))=some r:=by first|(rw [qkt];with_reducible exact H)|(have H2_:=(Option.bind_some _ _).symm.trans H;rw [qkt];with_reducible exact H2_)|(have H2_:=(Option.bind_some _ _).symm.trans H;with_reducible exact H2_)|with_reducible exact H|(rw [qkt];exact H)|exact H
 have qu2:=Q0.mk qkt
 clear qkt
 replace H:=Option.bind_eq_some_iff.mp H
 obtain ⟨⟨qjf,qjg⟩,A30,H⟩:=H
 replace H:((QN.f 70 80).bind fun UJ=>(some (([qjD,(([(⟨qjf,qjg⟩:S25),(⟨UJ.1,UJ.2⟩:S25)]:List (S25)))]:List (List (S25))))))=some r:=H
 have A3:=Q0.mk A30
 clear A30
 replace H:=Option.bind_eq_some_iff.mp H
 obtain ⟨⟨qk6,qk7⟩,A40,H⟩:=H
 replace H:(some (([qjD,(([(⟨qjf,qjg⟩:S25),(⟨qk6,qk7⟩:S25)]:List (S25)))]:List (List (S25)))))=some r:=H
 have A4:=Q0.mk A40
 clear A40
 obtain ⟨qpj,qku⟩:∃ y_:List (S25),y_=(([(⟨qjf,qjg⟩:S25),(⟨qk6,qk7⟩:S25)]:List (S25))):=⟨_,rfl⟩
 replace H:(some (([qjD,qpj]:List (List (S25)))))=some r:=by first|(rw [qku];with_reducible exact H)|(have H2_:=(Option.bind_some _ _).symm.trans H;rw [qku];with_reducible exact H2_)|(have H2_:=(Option.bind_some _ _).symm.trans H;with_reducible exact H2_)|with_reducible exact H|(rw [qku];exact H)|exact H
 have qu3:=Q0.mk qku
 clear qku
 obtain ⟨qIl,qkv⟩:∃ y_:List (List (S25)),y_=(([qjD,qpj]:List (List (S25)))):=⟨_,rfl⟩
 replace H:(some qIl)=some r:=by first|(rw [qkv];with_reducible exact H)|(have H2_:=(Option.bind_some _ _).symm.trans H;rw [qkv];with_reducible exact H2_)|(have H2_:=(Option.bind_some _ _).symm.trans H;with_reducible exact H2_)|with_reducible exact H|(rw [qkv];exact H)|exact H
 have qu4:=Q0.mk qkv
 clear qkv
 obtain rfl:=Option.some.inj H
 go_enter Try.func61,Try.ntmps61
 go_wp2_with (first|((with_reducible refine QG (f:=43) rfl ?_);refine YF (some 1) rfl rfl Try.func43 (by kernel_rfl) rfl #[.int .i64 60,.int .i64 70] rfl (by (try simp only [List.map_toArray,List.map_cons,List.map_nil]);first|done|rfl|(simp only [List.length_drop,List.length_take];rfl)) ?_;(with_reducible refine (QN.calls 60 70 qjd qje _ A1.out).mono ?_);rintro e w5 ⟨rfl,hb⟩;refine ⟨_,rfl,?_⟩;have n0_:=Q0.mk (Qk (by repeat (first|(with_reducible first|exact HB.out|apply Q3|apply Q1|apply Q6)|exact HB.out)) hb);clear HB;have HB:=n0_;clear n0_;(try clear hb);(try clear hb2);(try clear hk);(try clear hi))|((with_reducible refine QG (f:=43) rfl ?_);refine YF (some 2) rfl rfl Try.func43 (by kernel_rfl) rfl #[.int .i64 30,.int .i64 40] rfl (by (try simp only [List.map_toArray,List.map_cons,List.map_nil]);first|done|rfl|(simp only [List.length_drop,List.length_take];rfl)) ?_;(with_reducible refine (QN.calls 30 40 qk4 qk5 _ A2.out).mono ?_);rintro e w6 ⟨rfl,hb⟩;refine ⟨_,rfl,?_⟩;have n0_:=Q0.mk (Qk (by repeat (first|(with_reducible first|exact HB.out|apply Q3|apply Q1|apply Q6)|exact HB.out)) hb);clear HB;have HB:=n0_;clear n0_;(try clear hb);(try clear hb2);(try clear hk);(try clear hi))|((with_reducible refine QZ (N:=3) rfl ?_);refine Kd.R_lit k25 _ 25 ?hg (N:=3) ?hd (xs:=([(⟨qjd,qje⟩:S25),(⟨qk4,qk5⟩:S25)]:List (S25))) (inner:=[.int .i64 qjd,.int .i64 qje,.int .i64 qk4,.int .i64 qk5]) (ok:=fun _=>True) (okp:=fun _=>True) ?hr ?hp (fun _ hk=>hk) trivial (Below.refl _ _) (Nat.le_refl _) (by simp) ?_;(case hd=>rfl);(case hg=>rfl);(case hr=>first|(go_simp;done)|(go_simp;rfl));(case hp=>exact (Reps.c2 (show Kd.M k25 _ _ _ (⟨qjd,qje⟩:S25) [.int .i64 qjd,.int .i64 qje] from (Wm _ _ _ (⟨qjd,qje⟩:S25) )) (Reps.c2 (show Kd.M k25 _ _ _ (⟨qk4,qk5⟩:S25) [.int .i64 qk4,.int .i64 qk5] from (Wm _ _ _ (⟨qk4,qk5⟩:S25) )) (Reps.none _ _))));intro qLT w7 ho8 hb hg_ hnew_;clear hg_ hnew_;(first|rw [← qu2.out] at ho8|(simp only [Int.reduceToNat] at ho8;rw [← qu2.out] at ho8));have n0_:=Q0.mk (Kd.R_lower (Kd.R_newM (M:=fun k_=>(w.heap.size≤k_)) ho8 (Qh (by repeat (first|(with_reducible first|exact HB.out|apply Q3|apply Q1|apply Q6)|exact HB.out))) (fun k_ h_=>h_)) (Qh (by repeat (first|(with_reducible first|exact HB.out|apply Q3|apply Q1|apply Q6)|exact HB.out))));have n1_:=Q0.mk (Qk (by repeat (first|(with_reducible first|exact HB.out|apply Q3|apply Q1|apply Q6)|exact HB.out)) hb);clear HB;have WW:=n0_;have HB:=n1_;clear n0_ n1_ hb ho8)|((with_reducible refine QG (f:=43) rfl ?_);refine YF (some 4) rfl rfl Try.func43 (by kernel_rfl) rfl #[.int .i64 20,.int .i64 30] rfl (by (try simp only [List.map_toArray,List.map_cons,List.map_nil]);first|done|rfl|(simp only [List.length_drop,List.length_take];rfl)) ?_;(with_reducible refine (QN.calls 20 30 qjf qjg _ A3.out).mono ?_);rintro e w9 ⟨rfl,hb⟩;refine ⟨_,rfl,?_⟩;have n0_:=Q0.mk (Kd.R_below (by (with_reducible repeat (first|apply Kd.R_alloc|apply Kd.R_drewN|apply Kd.R_drew));exact WW.out) hb);have n1_:=Q0.mk (Qk (by repeat (first|(with_reducible first|exact HB.out|apply Q3|apply Q1|apply Q6)|exact HB.out)) hb);clear WW HB;have WW:=n0_;have HB:=n1_;clear n0_ n1_;(try clear hb);(try clear hb2);(try clear hk);(try clear hi))|((with_reducible refine QG (f:=43) rfl ?_);refine YF (some 5) rfl rfl Try.func43 (by kernel_rfl) rfl #[.int .i64 70,.int .i64 80] rfl (by (try simp only [List.map_toArray,List.map_cons,List.map_nil]);first|done|rfl|(simp only [List.length_drop,List.length_take];rfl)) ?_;(with_reducible refine (QN.calls 70 80 qk6 qk7 _ A4.out).mono ?_);rintro e w10 ⟨rfl,hb⟩;refine ⟨_,rfl,?_⟩;have n0_:=Q0.mk (Kd.R_below (by (with_reducible repeat (first|apply Kd.R_alloc|apply Kd.R_drewN|apply Kd.R_drew));exact WW.out) hb);have n1_:=Q0.mk (Qk (by repeat (first|(with_reducible first|exact HB.out|apply Q3|apply Q1|apply Q6)|exact HB.out)) hb);clear WW HB;have WW:=n0_;have HB:=n1_;clear n0_ n1_;(try clear hb);(try clear hb2);(try clear hk);(try clear hi))|((with_reducible refine QZ (N:=6) rfl ?_);refine Kd.R_lit k25 _ 25 ?hg (N:=6) ?hd (xs:=([(⟨qjf,qjg⟩:S25),(⟨qk6,qk7⟩:S25)]:List (S25))) (inner:=[.int .i64 qjf,.int .i64 qjg,.int .i64 qk6,.int .i64 qk7]) (ok:=fun _=>True) (okp:=fun _=>True) ?hr ?hp (fun _ hk=>hk) trivial (Below.refl _ _) (Nat.le_refl _) (by simp) ?_;(case hd=>rfl);(case hg=>rfl);(case hr=>first|(go_simp;done)|(go_simp;rfl));(case hp=>exact (Reps.c2 (show Kd.M k25 _ _ _ (⟨qjf,qjg⟩:S25) [.int .i64 qjf,.int .i64 qjg] from (Wm _ _ _ (⟨qjf,qjg⟩:S25) )) (Reps.c2 (show Kd.M k25 _ _ _ (⟨qk6,qk7⟩:S25) [.int .i64 qk6,.int .i64 qk7] from (Wm _ _ _ (⟨qk6,qk7⟩:S25) )) (Reps.none _ _))));intro qLU w11 qoJ hb hg_ hnew_;clear hg_ hnew_;(first|rw [← qu3.out] at qoJ|(simp only [Int.reduceToNat] at qoJ;rw [← qu3.out] at qoJ));have n0_:=Q0.mk (Kd.R_elder' (by (with_reducible repeat (first|apply Kd.R_alloc|apply Kd.R_drewN|apply Kd.R_drew));exact WW.out) (Kd.R_base qoJ) hb);have n1_:=Q0.mk (Kd.R_lower (Kd.R_new' (Kd.R_newM (M:=fun k_=>(w.heap.size≤k_)) qoJ (Qh (by repeat (first|(with_reducible first|exact HB.out|apply Q3|apply Q1|apply Q6)|exact HB.out))) (fun k_ h_=>h_)) (Kd.R_lt (by (with_reducible repeat (first|apply Kd.R_alloc|apply Kd.R_drewN|apply Kd.R_drew));exact WW.out))) (Qh (by repeat (first|(with_reducible first|exact HB.out|apply Q3|apply Q1|apply Q6)|exact HB.out))));have n2_:=Q0.mk (Qk (by repeat (first|(with_reducible first|exact HB.out|apply Q3|apply Q1|apply Q6)|exact HB.out)) hb);clear WW HB;have WW:=n0_;have qm0:=n1_;have HB:=n2_;clear n0_ n1_ n2_ hb qoJ;obtain ⟨qxF,qyw,qHi⟩:=Kd.R_slice WW.out;subst qHi;obtain ⟨qxG,qyx,qHj⟩:=Kd.R_slice qm0.out;subst qHj)|((with_reducible refine QZ (N:=7) rfl ?_);refine Kd.N_lit (Kd.slice 25 k25) _ 32 ?hg (N':=7) ?hd (xs:=([qjD,qpj]:List (List (S25)))) (inner:=[.slice qxF qjD.length qyw,.slice qxG qpj.length qyx]) (ok:=(fun k_=>(w.heap.size≤k_))) (okp:=(fun k_=>(w.heap.size≤k_))) ?hr ?hp (fun _ hk=>hk) ((show ∀ k_,w11.heap.size≤k_→(fun k_=>(w.heap.size≤k_)) k_ from fun k_ hk=>(Nat.le_trans (Qh (by repeat (first|(with_reducible first|exact HB.out|apply Q3|apply Q1|apply Q6)|exact HB.out))) hk)) _ (Nat.le_refl _)) (Below.refl _ _) (Nat.le_refl _) (by simp) ?_;(case hd=>rfl);(case hg=>rfl);(case hr=>first|(go_simp;done)|(go_simp;rfl));(case hp=>exact (Reps.one (show Kd.FK (Kd.slice 25 k25) _ _ qjD [.slice qxF qjD.length qyw] from (Kd.FK_slice_mk (Kd.R_reads' (Kd.R_mono (ok':=(fun k_=>(w.heap.size≤k_))) (WW.out) (fun k_ hk=>hk.1.1))).2.1 (Kd.R_F (Kd.R_mono (ok':=(fun k_=>(w.heap.size≤k_))) (WW.out) (fun k_ hk=>hk.1.1))))) (Reps.one (show Kd.FK (Kd.slice 25 k25) _ _ qpj [.slice qxG qpj.length qyx] from (Kd.FK_slice_mk (Kd.R_reads' (Kd.R_mono (ok':=(fun k_=>(w.heap.size≤k_))) (qm0.out) (fun k_ hk=>hk.1.1))).2.1 (Kd.R_F (Kd.R_mono (ok':=(fun k_=>(w.heap.size≤k_))) (qm0.out) (fun k_ hk=>hk.1.1))))) (Reps.none _ _))));intro qLV w15 qqZ hb hg_ hnew_;clear hg_ hnew_;(first|rw [← qu4.out] at qqZ|(simp only [Int.reduceToNat] at qqZ;rw [← qu4.out] at qqZ));have n0_:=Q0.mk (Kd.N_lower qqZ (Qh (by repeat (first|(with_reducible first|exact HB.out|apply Q3|apply Q1|apply Q6)|exact HB.out))));have n1_:=Q0.mk (Qk (by repeat (first|(with_reducible first|exact HB.out|apply Q3|apply Q1|apply Q6)|exact HB.out)) hb);clear HB WW qm0;have qx0:=n0_;have HB:=n1_;clear n0_ n1_ hb qqZ))
 go_ret
 exact ⟨_,by first|rfl|(simp [Qz,QA]<;>rfl)|(simp [*,Qz,QA]<;>rfl),by (with_reducible repeat (first|apply Kd.N_alloc|apply Kd.N_drewN|apply Kd.N_drew));exact qx0.out,by repeat (first|(with_reducible first|exact HB.out|apply Q3|apply Q1|apply Q6)|exact HB.out)⟩
end
section
attribute [local go_sem] Yv Yx YJ YK Yl Ym Yw Yy
def O9.f  : Option ((List (JE))):=some (([(⟨50,8⟩:JE),(⟨30,5⟩:JE),(⟨20,1⟩:JE),(⟨10,4⟩:JE)]:List (JE)))
set_option maxHeartbeats 8000000 in
set_option maxRecDepth 100000 in
theorem O9.calls  (r:List (JE)) (w:World) (h:O9.f  = some r) :
  Calls Try.prog 62 #[] w fun e w' => ∃ v0_:Value,e = .returned (v0_)∧Kd.R qd0 136 w' w.heap.size (fun _=>True) v0_ r∧Below w.heap.size w w':=by
 have qq4:=Try.underlying136
 have HB:=Q0.mk (Below.refl w.heap.size w)
 have H:(some (([(⟨50,8⟩:JE),(⟨30,5⟩:JE),(⟨20,1⟩:JE),(⟨10,4⟩:JE)]:List (JE))))=some r:=h
 clear h
 obtain ⟨qIm,qkw⟩:∃ y_:List (JE),y_=(([(⟨50,8⟩:JE),(⟨30,5⟩:JE),(⟨20,1⟩:JE),(⟨10,4⟩:JE)]:List (JE))):=⟨_,rfl⟩
 replace H:(some qIm)=some r:=by first|(rw [qkw];with_reducible exact H)|(have H2_:=(Option.bind_some _ _).symm.trans H;rw [qkw];with_reducible exact H2_)|(have H2_:=(Option.bind_some _ _).symm.trans H;with_reducible exact H2_)|with_reducible exact H|(rw [qkw];exact H)|exact H
 have qu5:=Q0.mk qkw
 clear qkw
 obtain rfl:=Option.some.inj H
 go_enter Try.func62,Try.ntmps62
 go_wp2_with (first|((with_reducible refine QZ (N:=5) rfl ?_);refine Kd.R_lit qd0 _ 136 ?hg (N:=5) ?hd (xs:=([(⟨50,8⟩:JE),(⟨30,5⟩:JE),(⟨20,1⟩:JE),(⟨10,4⟩:JE)]:List (JE))) (inner:=[.int .i64 50,.int .i64 8,.int .i64 30,.int .i64 5,.int .i64 20,.int .i64 1,.int .i64 10,.int .i64 4]) (ok:=fun _=>True) (okp:=fun _=>True) ?hr ?hp (fun _ hk=>hk) trivial (Below.refl _ _) (Nat.le_refl _) (by simp) ?_;(case hd=>rfl);(case hg=>rfl);(case hr=>first|(go_simp;done)|(go_simp;rfl));(case hp=>exact (Reps.c2 (show Kd.M qd0 _ _ _ (⟨50,8⟩:JE) [.int .i64 50,.int .i64 8] from (qd1 _ _ _ (⟨50,8⟩:JE) )) (Reps.c2 (show Kd.M qd0 _ _ _ (⟨30,5⟩:JE) [.int .i64 30,.int .i64 5] from (qd1 _ _ _ (⟨30,5⟩:JE) )) (Reps.c2 (show Kd.M qd0 _ _ _ (⟨20,1⟩:JE) [.int .i64 20,.int .i64 1] from (qd1 _ _ _ (⟨20,1⟩:JE) )) (Reps.c2 (show Kd.M qd0 _ _ _ (⟨10,4⟩:JE) [.int .i64 10,.int .i64 4] from (qd1 _ _ _ (⟨10,4⟩:JE) )) (Reps.none _ _))))));intro qLW w1 ho2 hb hg_ hnew_;clear hg_ hnew_;(first|rw [← qu5.out] at ho2|(simp only [Int.reduceToNat] at ho2;rw [← qu5.out] at ho2));have n0_:=Q0.mk (Kd.R_lower ho2 (Qh (by repeat (first|(with_reducible first|exact HB.out|apply Q3|apply Q1|apply Q6)|exact HB.out))));have n1_:=Q0.mk (Qk (by repeat (first|(with_reducible first|exact HB.out|apply Q3|apply Q1|apply Q6)|exact HB.out)) hb);clear HB;have qx1:=n0_;have HB:=n1_;clear n0_ n1_ hb ho2))
 go_ret
 exact ⟨_,by first|rfl|(simp [Qz,QA]<;>rfl)|(simp [*,Qz,QA]<;>rfl),by (with_reducible repeat (first|apply Kd.R_alloc|apply Kd.R_drewN|apply Kd.R_drew));exact qx1.out,by repeat (first|(with_reducible first|exact HB.out|apply Q3|apply Q1|apply Q6)|exact HB.out)⟩
end
section
attribute [local go_sem] Yv Yx YJ YK Yl Ym Yw Yy
def Kx.f  : Option ((List (List Int))):=some (([(([0,1]:List Int)),(([1,2]:List Int)),(([2,3]:List Int))]:List (List Int)))
set_option maxHeartbeats 8000000 in
set_option maxRecDepth 100000 in
theorem Kx.calls  (r:List (List Int)) (w:World) (h:Kx.f  = some r) :
  Calls Try.prog 63 #[] w fun e w' => ∃ v0_:Value,e = .returned (v0_)∧Kd.N (Kd.slice 3 (Kd.int .i64)) 37 w' w.heap.size (fun k_=>(w.heap.size≤k_)) v0_ r∧Below w.heap.size w w':=by
 have HB:=Q0.mk (Below.refl w.heap.size w)
 have H:(some (([(([0,1]:List Int)),(([1,2]:List Int)),(([2,3]:List Int))]:List (List Int))))=some r:=h
 clear h
 obtain ⟨qle,qkx⟩:∃ y_:List Int,y_=(([0,1]:List Int)):=⟨_,rfl⟩
 replace H:(some (([qle,(([1,2]:List Int)),(([2,3]:List Int))]:List (List Int))))=some r:=by first|(rw [qkx];with_reducible exact H)|(have H2_:=(Option.bind_some _ _).symm.trans H;rw [qkx];with_reducible exact H2_)|(have H2_:=(Option.bind_some _ _).symm.trans H;with_reducible exact H2_)|with_reducible exact H|(rw [qkx];exact H)|exact H
 have qu6:=Q0.mk qkx
 clear qkx
 obtain ⟨qmN,qky⟩:∃ y_:List Int,y_=(([1,2]:List Int)):=⟨_,rfl⟩
 replace H:(some (([qle,qmN,(([2,3]:List Int))]:List (List Int))))=some r:=by first|(rw [qky];with_reducible exact H)|(have H2_:=(Option.bind_some _ _).symm.trans H;rw [qky];with_reducible exact H2_)|(have H2_:=(Option.bind_some _ _).symm.trans H;with_reducible exact H2_)|with_reducible exact H|(rw [qky];exact H)|exact H
 have qu7:=Q0.mk qky
 clear qky
 obtain ⟨qpk,qkz⟩:∃ y_:List Int,y_=(([2,3]:List Int)):=⟨_,rfl⟩
 replace H:(some (([qle,qmN,qpk]:List (List Int))))=some r:=by first|(rw [qkz];with_reducible exact H)|(have H2_:=(Option.bind_some _ _).symm.trans H;rw [qkz];with_reducible exact H2_)|(have H2_:=(Option.bind_some _ _).symm.trans H;with_reducible exact H2_)|with_reducible exact H|(rw [qkz];exact H)|exact H
 have qu8:=Q0.mk qkz
 clear qkz
 obtain ⟨qIn,qkA⟩:∃ y_:List (List Int),y_=(([qle,qmN,qpk]:List (List Int))):=⟨_,rfl⟩
 replace H:(some qIn)=some r:=by first|(rw [qkA];with_reducible exact H)|(have H2_:=(Option.bind_some _ _).symm.trans H;rw [qkA];with_reducible exact H2_)|(have H2_:=(Option.bind_some _ _).symm.trans H;with_reducible exact H2_)|with_reducible exact H|(rw [qkA];exact H)|exact H
 have qu9:=Q0.mk qkA
 clear qkA
 obtain rfl:=Option.some.inj H
 go_enter Try.func63,Try.ntmps63
 go_wp2_with (first|((with_reducible refine QZ (N:=1) rfl ?_);refine Kd.R_lit (Kd.int .i64) _ 3 ?hg (N:=1) ?hd (xs:=([0,1]:List Int)) (inner:=[.int .i64 0,.int .i64 1]) (ok:=fun _=>True) (okp:=fun _=>True) ?hr ?hp (fun _ hk=>hk) trivial (Below.refl _ _) (Nat.le_refl _) (by simp) ?_;(case hd=>rfl);(case hg=>rfl);(case hr=>first|(go_simp;done)|(go_simp;rfl));(case hp=>exact (Reps.one (show Kd.M (Kd.int .i64) _ _ _ 0 [.int .i64 0] from rfl) (Reps.one (show Kd.M (Kd.int .i64) _ _ _ 1 [.int .i64 1] from rfl) (Reps.none _ _))));intro qLX w1 ho2 hb hg_ hnew_;clear hg_ hnew_;(first|rw [← qu6.out] at ho2|(simp only [Int.reduceToNat] at ho2;rw [← qu6.out] at ho2));have n0_:=Q0.mk (Kd.R_lower (Kd.R_newM (M:=fun k_=>(w.heap.size≤k_)) ho2 (Qh (by repeat (first|(with_reducible first|exact HB.out|apply Q3|apply Q1|apply Q6)|exact HB.out))) (fun k_ h_=>h_)) (Qh (by repeat (first|(with_reducible first|exact HB.out|apply Q3|apply Q1|apply Q6)|exact HB.out))));have n1_:=Q0.mk (Qk (by repeat (first|(with_reducible first|exact HB.out|apply Q3|apply Q1|apply Q6)|exact HB.out)) hb);clear HB;have qaR:=n0_;have HB:=n1_;clear n0_ n1_ hb ho2)|((with_reducible refine QZ (N:=2) rfl ?_);refine Kd.R_lit (Kd.int .i64) _ 3 ?hg (N:=2) ?hd (xs:=([1,2]:List Int)) (inner:=[.int .i64 1,.int .i64 2]) (ok:=fun _=>True) (okp:=fun _=>True) ?hr ?hp (fun _ hk=>hk) trivial (Below.refl _ _) (Nat.le_refl _) (by simp) ?_;(case hd=>rfl);(case hg=>rfl);(case hr=>first|(go_simp;done)|(go_simp;rfl));(case hp=>exact (Reps.one (show Kd.M (Kd.int .i64) _ _ _ 1 [.int .i64 1] from rfl) (Reps.one (show Kd.M (Kd.int .i64) _ _ _ 2 [.int .i64 2] from rfl) (Reps.none _ _))));intro qLY w3 ho4 hb hg_ hnew_;clear hg_ hnew_;(first|rw [← qu7.out] at ho4|(simp only [Int.reduceToNat] at ho4;rw [← qu7.out] at ho4));have n0_:=Q0.mk (Kd.R_elder' (by (with_reducible repeat (first|apply Kd.R_alloc|apply Kd.R_drewN|apply Kd.R_drew));exact qaR.out) (Kd.R_base ho4) hb);have n1_:=Q0.mk (Kd.R_lower (Kd.R_new' (Kd.R_newM (M:=fun k_=>(w.heap.size≤k_)) ho4 (Qh (by repeat (first|(with_reducible first|exact HB.out|apply Q3|apply Q1|apply Q6)|exact HB.out))) (fun k_ h_=>h_)) (Kd.R_lt (by (with_reducible repeat (first|apply Kd.R_alloc|apply Kd.R_drewN|apply Kd.R_drew));exact qaR.out))) (Qh (by repeat (first|(with_reducible first|exact HB.out|apply Q3|apply Q1|apply Q6)|exact HB.out))));have n2_:=Q0.mk (Qk (by repeat (first|(with_reducible first|exact HB.out|apply Q3|apply Q1|apply Q6)|exact HB.out)) hb);clear qaR HB;have qaR:=n0_;have qev:=n1_;have HB:=n2_;clear n0_ n1_ n2_ hb ho4)|((with_reducible refine QZ (N:=3) rfl ?_);refine Kd.R_lit (Kd.int .i64) _ 3 ?hg (N:=3) ?hd (xs:=([2,3]:List Int)) (inner:=[.int .i64 2,.int .i64 3]) (ok:=fun _=>True) (okp:=fun _=>True) ?hr ?hp (fun _ hk=>hk) trivial (Below.refl _ _) (Nat.le_refl _) (by simp) ?_;(case hd=>rfl);(case hg=>rfl);(case hr=>first|(go_simp;done)|(go_simp;rfl));(case hp=>exact (Reps.one (show Kd.M (Kd.int .i64) _ _ _ 2 [.int .i64 2] from rfl) (Reps.one (show Kd.M (Kd.int .i64) _ _ _ 3 [.int .i64 3] from rfl) (Reps.none _ _))));intro qLZ w5 ho6 hb hg_ hnew_;clear hg_ hnew_;(first|rw [← qu8.out] at ho6|(simp only [Int.reduceToNat] at ho6;rw [← qu8.out] at ho6));have n0_:=Q0.mk (Kd.R_elder' (by (with_reducible repeat (first|apply Kd.R_alloc|apply Kd.R_drewN|apply Kd.R_drew));exact qaR.out) (Kd.R_base ho6) hb);have n1_:=Q0.mk (Kd.R_elder' (by (with_reducible repeat (first|apply Kd.R_alloc|apply Kd.R_drewN|apply Kd.R_drew));exact qev.out) (Kd.R_base ho6) hb);have n2_:=Q0.mk (Kd.R_lower (Kd.R_new' (Kd.R_new' (Kd.R_newM (M:=fun k_=>(w.heap.size≤k_)) ho6 (Qh (by repeat (first|(with_reducible first|exact HB.out|apply Q3|apply Q1|apply Q6)|exact HB.out))) (fun k_ h_=>h_)) (Kd.R_lt (by (with_reducible repeat (first|apply Kd.R_alloc|apply Kd.R_drewN|apply Kd.R_drew));exact qaR.out))) (Kd.R_lt (by (with_reducible repeat (first|apply Kd.R_alloc|apply Kd.R_drewN|apply Kd.R_drew));exact qev.out))) (Qh (by repeat (first|(with_reducible first|exact HB.out|apply Q3|apply Q1|apply Q6)|exact HB.out))));have n3_:=Q0.mk (Qk (by repeat (first|(with_reducible first|exact HB.out|apply Q3|apply Q1|apply Q6)|exact HB.out)) hb);clear qaR qev HB;have qaR:=n0_;have qev:=n1_;have qm1:=n2_;have HB:=n3_;clear n0_ n1_ n2_ n3_ hb ho6;obtain ⟨Ao7,co7,eo7⟩:=Kd.R_slice qaR.out;subst eo7;obtain ⟨Ao8,co8,eo8⟩:=Kd.R_slice qev.out;subst eo8;obtain ⟨Ao9,co9,eo9⟩:=Kd.R_slice qm1.out;subst eo9)|((with_reducible refine QZ (N:=4) rfl ?_);refine Kd.N_lit (Kd.slice 3 (Kd.int .i64)) _ 37 ?hg (N':=4) ?hd (xs:=([qle,qmN,qpk]:List (List Int))) (inner:=[.slice Ao7 qle.length co7,.slice Ao8 qmN.length co8,.slice Ao9 qpk.length co9]) (ok:=(fun k_=>(w.heap.size≤k_))) (okp:=(fun k_=>(w.heap.size≤k_))) ?hr ?hp (fun _ hk=>hk) ((show ∀ k_,w5.heap.size≤k_→(fun k_=>(w.heap.size≤k_)) k_ from fun k_ hk=>(Nat.le_trans (Qh (by repeat (first|(with_reducible first|exact HB.out|apply Q3|apply Q1|apply Q6)|exact HB.out))) hk)) _ (Nat.le_refl _)) (Below.refl _ _) (Nat.le_refl _) (by simp) ?_;(case hd=>rfl);(case hg=>rfl);(case hr=>first|(go_simp;done)|(go_simp;rfl));(case hp=>exact (Reps.one (show Kd.FK (Kd.slice 3 (Kd.int .i64)) _ _ qle [.slice Ao7 qle.length co7] from (Kd.FK_slice_mk (Kd.R_reads' (Kd.R_mono (ok':=(fun k_=>(w.heap.size≤k_))) (qaR.out) (fun k_ hk=>hk.1.1.1))).2.1 (Kd.R_F (Kd.R_mono (ok':=(fun k_=>(w.heap.size≤k_))) (qaR.out) (fun k_ hk=>hk.1.1.1))))) (Reps.one (show Kd.FK (Kd.slice 3 (Kd.int .i64)) _ _ qmN [.slice Ao8 qmN.length co8] from (Kd.FK_slice_mk (Kd.R_reads' (Kd.R_mono (ok':=(fun k_=>(w.heap.size≤k_))) (qev.out) (fun k_ hk=>hk.1.1.1))).2.1 (Kd.R_F (Kd.R_mono (ok':=(fun k_=>(w.heap.size≤k_))) (qev.out) (fun k_ hk=>hk.1.1.1))))) (Reps.one (show Kd.FK (Kd.slice 3 (Kd.int .i64)) _ _ qpk [.slice Ao9 qpk.length co9] from (Kd.FK_slice_mk (Kd.R_reads' (Kd.R_mono (ok':=(fun k_=>(w.heap.size≤k_))) (qm1.out) (fun k_ hk=>hk.1.1.1))).2.1 (Kd.R_F (Kd.R_mono (ok':=(fun k_=>(w.heap.size≤k_))) (qm1.out) (fun k_ hk=>hk.1.1.1))))) (Reps.none _ _)))));intro qL0 w10 qqX hb hg_ hnew_;clear hg_ hnew_;(first|rw [← qu9.out] at qqX|(simp only [Int.reduceToNat] at qqX;rw [← qu9.out] at qqX));have n0_:=Q0.mk (Kd.N_lower qqX (Qh (by repeat (first|(with_reducible first|exact HB.out|apply Q3|apply Q1|apply Q6)|exact HB.out))));have n1_:=Q0.mk (Qk (by repeat (first|(with_reducible first|exact HB.out|apply Q3|apply Q1|apply Q6)|exact HB.out)) hb);clear HB qaR qev qm1;have qx2:=n0_;have HB:=n1_;clear n0_ n1_ hb qqX))
 go_ret
 exact ⟨_,by first|rfl|(simp [Qz,QA]<;>rfl)|(simp [*,Qz,QA]<;>rfl),by (with_reducible repeat (first|apply Kd.N_alloc|apply Kd.N_drewN|apply Kd.N_drew));exact qx2.out,by repeat (first|(with_reducible first|exact HB.out|apply Q3|apply Q1|apply Q6)|exact HB.out)⟩
end
section
set_option maxRecDepth 100000
def qgk:List S68:=[⟨30,⟨2,2⟩⟩,⟨20,⟨3,4⟩⟩,⟨10,⟨4,6⟩⟩]
def qhT:List (List S25):=[[⟨60,70⟩,⟨30,40⟩],[⟨20,30⟩,⟨70,80⟩]]
def qlF:List S25:=[⟨45,50⟩,⟨50,55⟩]
def qgi:S39:=⟨[100,50,20],[800,700,500],[0,1,2],60,1⟩
def qgj:S39:=⟨[60,60],[500,500],[1,1],50,0⟩
def qqB:List JE:=[⟨50,8⟩,⟨30,5⟩,⟨20,1⟩,⟨10,4⟩]
def qhS:List (List Int):=[[0,1],[1,2],[2,3]]
def XH:List (List (List Int)):=[[[90,80],[10,10]],[[0,0],[0,0]]]
theorem qoE:GV.f=some qgk:=by kernel_rfl
theorem qqI:Ky.f=some qhT:=by kernel_rfl
theorem qsH:KV.f=some qlF:=by kernel_rfl
theorem qoD:JC.f=some ([100,50,20],[800,700,500],[0,1,2],60,1):=by kernel_rfl
theorem qgl:Gc.f=some ([qgi,qgj],[40,80],XH):=by kernel_rfl
theorem qwt:O9.f=some qqB:=by kernel_rfl
theorem qqH:Kx.f=some qhS:=by kernel_rfl
theorem qsF:Y4.f 40 qgk 4 6=some (10,30,0):=by kernel_rfl
theorem qsG:Qx.f 20 [100,50,20] [800,700,500] [0,1,2] 60 1 [30,30] [90,80]=some ([40,78],0):=by kernel_rfl
theorem qqE:ZH.f 40 [qgi,qgj] [40,80] XH=some (7,0):=by kernel_rfl
theorem qqD:Yf.f 40 [qgi,qgj] [40,80] XH 8=some (1,1,1,0):=by kernel_rfl
theorem qqF:Ze.f 10 [40,78] [40,78]=some true:=by kernel_rfl
theorem qqG:Ze.f 10 [0,2] [0,2]=some true:=by kernel_rfl
theorem qhU:Z3.f 10 [⟨38,75⟩,⟨25,62⟩] [⟨38,75⟩,⟨25,62⟩]=some true:=by kernel_rfl
theorem qqC:QH.f qqB qhS 2=some ([0,2],110,18,0):=by kernel_rfl
theorem qoC:QF.f 20 qhT qlF=some ([⟨38,75⟩,⟨25,62⟩],0):=by kernel_rfl
end
section
attribute [local go_sem high] qqy
def Z2.f:Option Bool:=some true
structure qp3 (p:Prop):Prop where
 out:p
theorem V_C {α:Type} {d:Kd α} {e:Nat} {w:World} {b:Nat} {ok:Nat→Prop} {v:Value} {xs:List α} (h:Kd.V d e w b ok v xs):∃ A c,v = .slice A xs.length c∧xs.length≤c∧Kd.C d w A xs.length xs:=by
 obtain ⟨A,c,hv,hl,hf⟩:=h
 exact ⟨A,c,hv,hl,Kd.F_now hf⟩
theorem qjU {W:World} {o:Obj} {k:Nat} (h:W.heap.size=k):(W.alloc o).heap[k]? = some o:=by subst h;exact World.alloc_heap_new W o
theorem qmQ {W:World} {g:Nat} {a b:Int} (h:W.heap[g]? = some (.cells #[.int .i64 a,.int .i64 b] 3 (0,0))):Kd.C (Kd.int .i64) W (some ⟨g,0,none⟩) 2 [a,b]:=by
 refine ⟨rfl,by decide,fun _=>⟨_,rfl,fun j p hj=>⟨[.int .i64 p],rfl,rfl,fun i u hu => ?_⟩⟩⟩
 have hj2:j<2:=(List.getElem?_eq_some_iff.1 hj).1
 have hi:i=0:=by have:=(List.getElem?_eq_some_iff.1 hu).1;simpa using this
 subst hi
 have hu2:Value.int .i64 p=u:=by simpa using hu
 rw [XD,Q9 h]
 subst hu2
 match j,hj2,hj with
 | 0,_,hj=>cases hj;rfl
 | 1,_,hj=>cases hj;rfl
theorem qrY {W:World} {g:Nat} {a b a' b':Int} (h:W.heap[g]? = some (.cells #[.int .i64 a,.int .i64 b,.int .i64 a',.int .i64 b'] 25 (0,0))):Kd.C k25 W (some ⟨g,0,none⟩) 2 [⟨a,b⟩,⟨a',b'⟩]:=by
 refine ⟨rfl,by decide,fun _=>⟨_,rfl,fun j p hj=>⟨[.int .i64 p.f0,.int .i64 p.f1],rfl,qwH _ _,fun i u hu => ?_⟩⟩⟩
 have hj2:j<2:=(List.getElem?_eq_some_iff.1 hj).1
 have hi:i<2:=(List.getElem?_eq_some_iff.1 hu).1
 rw [XD,Q9 h]
 match j,hj2,hj,i,hi,hu with
 | 0,_,hj,0,_,hu=>cases hj;cases hu;rfl
 | 0,_,hj,1,_,hu=>cases hj;cases hu;rfl
 | 1,_,hj,0,_,hu=>cases hj;cases hu;rfl
 | 1,_,hj,1,_,hu=>cases hj;cases hu;rfl
set_option maxHeartbeats 8000000 in
set_option maxRecDepth 100000 in
theorem Z2.calls (r:Bool) (w:World) (h:Z2.f=some r) :
  Calls Try.prog 21 #[] w fun e w'=>e = .returned (.bool r)∧Below w.heap.size w w':=by
 obtain rfl:true=r:=Option.some.inj h
 clear h
 have qeK:=Try.underlying25
 go_enter Try.func21,Try.ntmps21
 have B0:=Below.refl w.heap.size w
 go_wp2_with (first
  | (go_at_call 59;refine (GV.calls _ _ qoE).mono ?_;rintro e w1 ⟨v,rfl,hv,hb1⟩;obtain ⟨A1,c1,rfl,hc1,hC1⟩:=Kd.R_reads hv;have B1:=B0.trans (hb1.mono B0.size);clear hv hb1)
  | (go_at_call 19;refine (Y4.calls 40 A1 c1 qgk 4 6 10 30 0 _ hC1 hc1 qsF).mono ?_;rintro e w2 ⟨rfl,hb2⟩;have B2:=B1.trans (hb2.mono B1.size);clear hC1 hc1 hb2)
  | (go_at_call 61;refine (Ky.calls _ _ qqI).mono ?_;rintro e w3 ⟨v,rfl,hv,hb3⟩;obtain ⟨A3,c3,rfl,hc3,hC3⟩:=Kd.N_reads hv;have B3:=(Q3 B2 _).trans (hb3.mono (Q3 B2 _).size);have K3:=Qg (World.alloc_heap_new w2 _) hb3;clear hv)
  | (go_at_call 60;refine (KV.calls _ _ qsH).mono ?_;rintro e w4 ⟨v,rfl,hv,hb4⟩;obtain ⟨A4,c4,rfl,hc4,hC4⟩:=Kd.R_reads hv;have B4:=B3.trans (hb4.mono B3.size);have qyR:=Kd.C_below hC3 hb4;have K4:=Qg K3 hb4;clear hv)
  | (go_at_call 22;refine (QF.calls 20 A3 c3 qhT A4 c4 qlF [⟨38,75⟩,⟨25,62⟩] 0 _ qyR hc3 hC4 hc4 qoC).mono ?_;rintro e w5 ⟨v,rfl,hv,hb5⟩;obtain ⟨A5,c5,rfl,hc5,hC5⟩:=V_C hv;have B5:=B4.trans (hb5.mono B4.size);have K5:=Qg K4 hb5;clear K3 K4 hC3 qyR hC4 hc3 hc4 hv hb3 hb4 hb5)
  | (go_at_call 57;refine (JC.calls _ _ _ _ _ _ qoD).mono ?_;rintro e w6 ⟨u0,u1,u2,rfl,h0,h1,h2,hb6⟩;obtain ⟨A60,c60,rfl,qy3,qyW⟩:=Kd.R_reads h0;obtain ⟨A61,c61,rfl,qy4,qyX⟩:=Kd.R_reads h1;obtain ⟨A62,c62,rfl,qy5,qyY⟩:=Kd.R_reads h2;have B6:=B5.trans (hb6.mono B5.size);have K6:=Qg K5 hb6;have qyS:=Kd.C_below hC5 hb6;clear K5 h0 h1 h2 hC5 hb6)
  | (go_at_call 25;refine (Qx.calls 20 A60 c60 [100,50,20] A61 c61 [800,700,500] A62 c62 [0,1,2] 60 1 _ 2 [30,30] _ 2 [90,80] [40,78] 0 _ ?q1 qy3 ?q2 qy4 ?q3 qy5 ?q4 (Nat.le_refl 2) ?q5 (Nat.le_refl 2) qsG).mono ?_;(case q1=>exact Kd.C_alloc (Kd.C_alloc qyW _) _);(case q2=>exact Kd.C_alloc (Kd.C_alloc qyX _) _);(case q3=>exact Kd.C_alloc (Kd.C_alloc qyY _) _);(case q4=>exact qmQ (Q2 (World.alloc_heap_new w6 _) _));(case q5=>refine qmQ ?_;(have:=World.alloc_heap_new (w6.alloc (.cells #[.int .i64 30,.int .i64 30] 3)) (.cells #[.int .i64 90,.int .i64 80] 3));rwa [World.size_alloc] at this);rintro e w7 ⟨v,rfl,hv,hb7⟩;obtain ⟨A7,c7,rfl,hc7,hC7⟩:=V_C hv;have B7:=(Q3 (Q3 B6 _) _).trans (hb7.mono (Q3 (Q3 B6 _) _).size);have K7:=Qg (Q2 (Q2 K6 _) _) hb7;have qyT:=Kd.C_below (Kd.C_alloc (Kd.C_alloc qyS _) _) hb7;clear qyW qyX qyY qy3 qy4 qy5 qyS K6 hv hb7)
  | (go_at_call 58;refine (Gc.calls _ _ _ _ qgl).mono ?_;rintro e w8 ⟨u0,u1,u2,rfl,h0,h1,h2,hb8⟩;obtain ⟨A80,c80,rfl,qqM,qqJ⟩:=Kd.N_reads h0;obtain ⟨A81,c81,rfl,qqN,qqK⟩:=Kd.R_reads h1;obtain ⟨A82,c82,rfl,qqO,qqL⟩:=Kd.N_reads h2;have B8:=B7.trans (hb8.mono B7.size);have K8:=Qg K7 hb8;have qyU:=Kd.C_below qyT hb8;have qy0:=Kd.C_below hC7 hb8;clear h0 h1 h2 qyT hC7 K7 hb8)
  | (go_at_call 28;refine (ZH.calls 40 A80 c80 [qgi,qgj] A81 c81 [40,80] A82 c82 XH 7 0 _ qqJ qqM qqK qqN qqL qqO qqE).mono ?_;rintro e w9 ⟨rfl,hb9⟩;have B9:=B8.trans (hb9.mono B8.size);have K9:=Qg K8 hb9;have qyV:=Kd.C_below qyU hb9;have qy1:=Kd.C_below qy0 hb9;clear qqJ qqK qqL qqM qqN qqO qyU qy0 K8 hb9))
 have hSb:∀ z:World,Below w9.heap.size w9 z→z.cell? ⟨w2.heap.size,0,none⟩=some (.int .i64 10)∧z.cell? ⟨w2.heap.size,1,none⟩=some (.int .i64 30)∧Below w9.heap.size w9 z:=fun z hz =>
  ⟨(Q9 (Qg K9 hz) 0).trans rfl,(Q9 (Qg K9 hz) 1).trans rfl,hz⟩
 have HSb:=Q0.mk hSb
 have H59:=Q0.mk qyV
 have H79:=Q0.mk qy1
 have HB9:=Q0.mk B9
 clear hSb qyV qy1 B0 B1 B2 B3 B4 B5 B6 B7 B8 B9 K9
 go_region_held3 (fun z=>z.cell? ⟨w2.heap.size,0,none⟩=some (.int .i64 10)∧z.cell? ⟨w2.heap.size,1,none⟩=some (.int .i64 30)∧Below w9.heap.size w9 z)
  (first|exact HSb.out _ (YC (Below.refl _ _))|(refine HSb.out _ (Q3 ?hk _);(case hk=>exact (And.right (And.right ‹_∧_∧Below w9.heap.size w9 _›))))|(refine HSb.out _ (Q1 ?hk _);(case hk=>exact (And.right (And.right ‹_∧_∧Below w9.heap.size w9 _›))))|(refine HSb.out _ (Below.trans ?hk1 (hbz.mono ?hk2));(case hk1=>exact (And.right (And.right ‹_∧_∧Below w9.heap.size w9 _›)));(case hk2=>exact (And.right (And.right ‹_∧_∧Below w9.heap.size w9 _›)).size)))
  (first
   | (go_at_call 43;refine (QN.calls _ _ _ _ _ rfl).mono ?_;rintro e wz ⟨rfl,hbz⟩)
   | (go_at_call 24;refine (Z3.calls 10 A5 c5 [⟨38,75⟩,⟨25,62⟩] _ 2 [⟨38,75⟩,⟨25,62⟩] true _ ?q1 hc5 ?q2 (Nat.le_refl 2) qhU).mono ?_;(case q1=>refine Kd.C_below H59.out ?hk;(case hk=>exact (And.right (And.right ‹_∧_∧Below w9.heap.size w9 _›))));(case q2=>refine qrY ?_;exact World.alloc_heap_new _ _);rintro e wz ⟨rfl,⟨nd,rfl⟩⟩)
   | (go_at_call 27;refine (Ze.calls 10 A7 c7 [40,78] _ 2 [40,78] true _ ?q1 hc7 ?q2 (Nat.le_refl 2) qqF).mono ?_;(case q1=>refine Kd.C_below H79.out ?hk;(case hk=>exact (And.right (And.right ‹_∧_∧Below w9.heap.size w9 _›))));(case q2=>refine qmQ (qjU ?hs);(case hs=>first|rfl|exact World.size_alloc _ _));rintro e wz ⟨rfl,⟨nd,rfl⟩⟩))
 go_wp2_with (go_at_call 58;refine qp3.out ?_)
 refine qp3.mk ?_
 refine (Gc.calls _ _ _ _ qgl).mono ?_
 rintro e wa ⟨u0,u1,u2,rfl,h0,h1,h2,hba⟩
 have Ba:Below w.heap.size w wa:=by
  refine Below.trans ?_ (hba.mono ?_)
  ·
   exact HB9.out.trans ((And.right (And.right ‹_∧_∧Below w9.heap.size w9 _›)).mono HB9.out.size)
  ·
   exact (HB9.out.trans ((And.right (And.right ‹_∧_∧Below w9.heap.size w9 _›)).mono HB9.out.size)).size
 obtain ⟨A80,c80,rfl,qqM,qqJ⟩:=Kd.N_reads h0
 obtain ⟨A81,c81,rfl,qqN,qqK⟩:=Kd.R_reads h1
 obtain ⟨A82,c82,rfl,qqO,qqL⟩:=Kd.N_reads h2
 clear h0 h1 h2 hba
 go_wp2_with (first
  | (go_at_call 32;refine (Yf.calls 40 A80 c80 [qgi,qgj] A81 c81 [40,80] A82 c82 XH 8 1 1 1 0 _ qqJ qqM qqK qqN qqL qqO qqD).mono ?_;rintro e wb ⟨rfl,hbb⟩;have Bb:=Ba.trans (hbb.mono Ba.size);clear qqJ qqK qqL qqM qqN qqO hbb)
  | (go_at_call 62;refine (O9.calls _ _ qwt).mono ?_;rintro e wc ⟨v,rfl,hv,hbc⟩;obtain ⟨Ac,cc,rfl,hcc,hCc⟩:=Kd.R_reads hv;have Bc:=Bb.trans (hbc.mono Bb.size);clear hv hbc)
  | (go_at_call 63;refine (Kx.calls _ _ qqH).mono ?_;rintro e wd ⟨v,rfl,hv,hbd⟩;obtain ⟨Ad,cd,rfl,hcd,hCd⟩:=Kd.N_reads hv;have Bd:=Bc.trans (hbd.mono Bc.size);have hCc':=Kd.C_below hCc hbd;clear hv hbd hCc)
  | (go_at_call 40;refine (QH.calls Ac cc qqB Ad cd qhS 2 [0,2] 110 18 0 _ hCc' hcc hCd hcd qqC).mono ?_;rintro e we ⟨v,rfl,hv,hbe⟩;obtain ⟨Ae,ce,rfl,hce,hCe⟩:=V_C hv;have Be:=Bd.trans (hbe.mono Bd.size);clear hv hbe hCc' hCd hcc hcd)
  | (go_at_call 27;refine (Ze.calls 10 Ae ce [0,2] _ 2 [0,2] true _ ?q1 hce ?q2 (Nat.le_refl 2) qqG).mono ?_;(case q1=>exact Kd.C_alloc hCe _);(case q2=>refine qmQ (qjU ?hs);(case hs=>rfl));rintro e wf ⟨rfl,⟨ndf,rfl⟩⟩))
 go_ret
 exact ⟨rfl,Q1 (Q3 Be _) _⟩
end
end Go.Proofs.Ytmhomdohhihlcaa.P
