/- What the statement StockShares leans on, part 3 of 5: contracts of the program's functions; conditions: none. -/
import Derived.Deep.RegionLaw
import Derived.Deep.RegionHeld3
import Derived.StillTailTactics
import Derived.Deep.RegionWith
import Derived.BigRegion
import Derived.Outline
import Derived.Test.YtmhomdohhihlcaaStockSharesx0
import Derived.Test.YtmhomdohhihlcaaStockSharesx1
set_option linter.unusedVariables false
set_option linter.unusedSimpArgs false
set_option linter.constructorNameAsVariable false
set_option linter.unusedSectionVars false
namespace Go.Proofs.Ytmhomdohhihlcaa.P
open Go.RowKit Go.Proofs.YtmhomdohhihlcaaW.PrintWords Go.Proofs.YtmhomdohhihlcaaW.PrintLast Go.Proofs.YtmhomdohhihlcaaW.PrintMore
section
attribute [local go_sem] YH YJ Z0 Z1 Yr Ys YI YK
mutual
def QS.l0:Nat→List (S68)→Int→Int→Bool→List (S68)→Int→Int→Option (Int × Int × Int)
 | 0,_,_,_,_,_,_,_=>none
 | k+1,x0,x1,x2,x8,x17,x18,x19=>if x19<x18 then (if 0≤x19 then (if x19<(x17.length:Int) then (if x8=true then ((Qj.f ((Ya x17 x19).f0) 0 10000).bind fun t105=>(if t105=true then ((ZH.f ((Ya x17 x19).f1.f0) ((Ya x17 x19).f1.f1) 20).bind fun qch=>(QS.l0 k x0 x1 x2 qch x17 x18 (wrap64 (x19+1)))) else (QS.l0 k x0 x1 x2 false x17 x18 (wrap64 (x19+1))))) else (QS.l0 k x0 x1 x2 false x17 x18 (wrap64 (x19+1)))) else (none)) else (none)) else (if x8=true then ((Qj.f x1 0 20).bind fun t107=>(if t107=true then ((Qj.f x2 x1 20).bind fun qk5=>(QS.j1 k x0 x1 x2 (!qk5))) else (QS.j1 k x0 x1 x2 true))) else (some (0,0,90)))
def QS.j1:Nat→List (S68)→Int→Int→Bool→Option (Int × Int × Int)
 | 0,_,_,_,_=>none
 | k+1,x0,x1,x2,x46=>if x46=true then (some (0,0,7)) else (QS.l1 k x1 x2 x0 (x0.length:Int) 0 0 0)
def QS.l1:Nat→Int→Int→List (S68)→Int→Int→Int→Int→Option (Int × Int × Int)
 | 0,_,_,_,_,_,_,_=>none
 | k+1,x1,x2,x48,x49,x50,KV,KW=>if x50<x49 then (if 0≤x50 then (if x50<(x48.length:Int) then (if x1≤((Ya x48 x50).f1.f0) then (QS.j3 k x1 x2 x48 x49 x50 (decide (((Ya x48 x50).f1.f1)≤x2)) KV KW ((Ya x48 x50).f0) ((Ya x48 x50).f1.f0) ((Ya x48 x50).f1.f1)) else (QS.j3 k x1 x2 x48 x49 x50 false KV KW ((Ya x48 x50).f0) ((Ya x48 x50).f1.f0) ((Ya x48 x50).f1.f1))) else (none)) else (none)) else (some (KV,KW,0))
def QS.j3:Nat→Int→Int→List (S68)→Int→Int→Bool→Int→Int→Int→Int→Int→Option (Int × Int × Int)
 | 0,_,_,_,_,_,_,_,_,_,_,_=>none
 | k+1,x1,x2,x48,x49,x50,x65,KV,KW,qaf,qiI,qiJ=>if x65=true then (if x1≤qiJ then (if qiI≤x2 then (QS.l1 k x1 x2 x48 x49 (wrap64 (x50+1)) (wrap64 (KV+qaf)) (wrap64 (KW+qaf))) else (QS.l1 k x1 x2 x48 x49 (wrap64 (x50+1)) (wrap64 (KV+qaf)) KW)) else (QS.l1 k x1 x2 x48 x49 (wrap64 (x50+1)) (wrap64 (KV+qaf)) KW)) else (if x1≤qiJ then (if qiI≤x2 then (QS.l1 k x1 x2 x48 x49 (wrap64 (x50+1)) KV (wrap64 (KW+qaf))) else (QS.l1 k x1 x2 x48 x49 (wrap64 (x50+1)) KV KW)) else (QS.l1 k x1 x2 x48 x49 (wrap64 (x50+1)) KV KW))
end
def QS.f (k:Nat) (l0:List (S68)) (a1:Int) (a2:Int):Option (Int × Int × Int):=QS.l0 k l0 a1 a2 (decide ((l0.length:Int)≤20)) l0 (l0.length:Int) 0
set_option maxHeartbeats 8000000 in
set_option maxRecDepth 100000 in
theorem QS.calls (k:Nat) (A0:Option Addr) (c0:Nat) (l0:List (S68)) (a1:Int) (a2:Int) (r1:Int) (r2:Int) (r3:Int) (w:World) (hr0:Kd.C k68 w A0 l0.length l0) (hc0:l0.length≤c0) (h:QS.f k l0 a1 a2=some (r1,r2,r3)) :
  Calls Try.prog 19 #[.slice A0 l0.length c0,.int .i64 a1,.int .i64 a2] w fun e w'=>e = .returned (.tuple #[.agg #[.int .i64 r1,.int .i64 r2],.int .i64 r3])∧Below w.heap.size w w':=by
 have WA:=Try.underlying25
 have qA4:=Try.underlying68
 have HR0:=Q1.mk hr0
 have HC0:=Q1.mk hc0
 clear hr0 hc0
 have HB:=Q1.mk (Below.refl w.heap.size w)
 have H:(QS.l0 k l0 a1 a2 (decide ((l0.length:Int)≤20)) l0 (l0.length:Int) 0)=some (r1,r2,r3):=h
 clear h
 have H':=Q1.mk H
 clear H
 go_enter Try.func19,Try.ntmps19
 go_wp2_with (first|((with_reducible refine QO (N:=6) rfl ?_);refine Yg ?hg (N:=6) ?hd (cs:=#[.int .i64 0,.int .i64 0]) (t:=25) ?hr ?_;(case hd=>rfl);(case hg=>rfl);(case hr=>first|(go_simp;done)|(go_simp;rfl));intro ZY hg w4 hbox hb;have n0_:=Q1.mk (Qh (by repeat (first|(with_reducible first|exact HB.out|apply Q2|apply Q0|apply Q5)|exact HB.out)) hb);have n1_:=Q1.mk (hbox);have n2_:=Q1.mk ((by rw [hg];exact (Qe (by repeat (first|(with_reducible first|exact HB.out|apply Q2|apply Q0|apply Q5)|exact HB.out))):w.heap.size≤ZY));have n3_:=n2_;clear HB;have HB:=n0_;have Z6:=n1_;have qBj:=n2_;have Jp:=n3_;clear n0_ n1_ n2_ n3_ hb hbox hg))
 go_loopg [8,19] k (fun kq v8 v19 w' => ∃ (G6:Bool) (ZG:Int),v8 = .bool G6∧v19 = .int .i64 ZG∧Q1 (QS.l0 kq l0 a1 a2 G6 l0 (l0.length:Int) ZG=some (r1,r2,r3))∧Q1 (kq≤k)∧Q1 (w'.heap[ZY]? = some (.cells #[.int .i64 0,.int .i64 0] 25 (0,0)))∧Q1 (Below w.heap.size w w'))
 case atStart=>exact ⟨(decide ((l0.length:Int)≤20)),(0),(by first|rfl|(simp;done)|(simp [*];done)),(by first|rfl|(simp;done)|(simp [*];done)),H',⟨Nat.le_refl _⟩,⟨by (with_reducible repeat (first|refine Q4 ?_ _|refine Q6 ?_|refine Q3 ?_ _));exact Z6.out⟩,⟨by repeat (first|(with_reducible first|exact HB.out|apply Q2|apply Q0|apply Q5|refine Q7 ?_ Jp.out)|exact HB.out)⟩⟩
 case round =>
  clear H'
  try clear c1
  try clear p2
  obtain ⟨G6,ZG,rfl,rfl,HA,HK1,Z6,HB⟩:=hrel
  cases gk with
  | zero=>exact absurd HA.out (by simp [QS.l0])
  | succ k1 =>
   have H:=HA.out
   clear HA
   simp only [QS.l0] at H
   by_cases c5:ZG<(l0.length:Int)
   ·
    rw [if_pos c5] at H;have c5b0:decide (ZG<(l0.length:Int))=true:=decide_eq_true c5;clear c5
    by_cases c6:0≤ZG
    ·
     rw [if_pos c6] at H;have c6b0:decide (0≤ZG)=true:=decide_eq_true c6;clear c6
     by_cases c7:ZG<(l0.length:Int)
     ·
      rw [if_pos c7] at H;have c7b0:decide (ZG<(l0.length:Int))=true:=decide_eq_true c7;clear c7
      by_cases c8:G6=true
      ·
       subst c8
       have H1:((Qj.f ((Ya l0 ZG).f0) 0 10000).bind fun t105=>(if t105=true then ((ZH.f ((Ya l0 ZG).f1.f0) ((Ya l0 ZG).f1.f1) 20).bind fun qch=>(QS.l0 k1 l0 a1 a2 qch l0 (l0.length:Int) (wrap64 (ZG+1)))) else (QS.l0 k1 l0 a1 a2 false l0 (l0.length:Int) (wrap64 (ZG+1)))))=some (r1,r2,r3):=by rw [if_pos rfl] at H;exact H
       clear H;have H:=H1;clear H1;replace H:=Option.bind_eq_some_iff.mp H;obtain ⟨t105,A90,H⟩:=H;replace H:(if t105=true then ((ZH.f ((Ya l0 ZG).f1.f0) ((Ya l0 ZG).f1.f1) 20).bind fun qch=>(QS.l0 k1 l0 a1 a2 qch l0 (l0.length:Int) (wrap64 (ZG+1)))) else (QS.l0 k1 l0 a1 a2 false l0 (l0.length:Int) (wrap64 (ZG+1))))=some (r1,r2,r3):=H;have A9:=Q1.mk A90;clear A90
       by_cases c10:t105=true
       ·
        subst c10
        have H1:((ZH.f ((Ya l0 ZG).f1.f0) ((Ya l0 ZG).f1.f1) 20).bind fun qch=>(QS.l0 k1 l0 a1 a2 qch l0 (l0.length:Int) (wrap64 (ZG+1))))=some (r1,r2,r3):=by rw [if_pos rfl] at H;exact H
        clear H;have H:=H1;clear H1;replace H:=Option.bind_eq_some_iff.mp H;obtain ⟨qch,qeL,H⟩:=H;replace H:(QS.l0 k1 l0 a1 a2 qch l0 (l0.length:Int) (wrap64 (ZG+1)))=some (r1,r2,r3):=H;have A11:=Q1.mk qeL;clear qeL;have H':=Q1.mk H;clear H;have XW:0≤(ZG:Int):=of_decide_eq_true (by first|(with_reducible assumption)|assumption);have XX:ZG<(l0.length:Int):=of_decide_eq_true (by first|(with_reducible assumption)|assumption);obtain ⟨qox,qkd,Gf,Gg,Gh⟩:=qdq HR0.out ZG XW XX;cases qkd;replace Gf:=(HB.out.cell (World.block_lt_of_cell? w _ Gf)).trans Gf;replace Gg:=(HB.out.cell (World.block_lt_of_cell? w _ Gg)).trans Gg;replace Gh:=(HB.out.cell (World.block_lt_of_cell? w _ Gh)).trans Gh;replace XW:=eq_true XW;replace XX:=eq_true XX
        go_wp2_with (first|((with_reducible refine QO (N:=10) rfl ?_);refine Yg ?hg (N:=10) ?hd (cs:=#[.int .i64 0,.int .i64 0,.int .i64 0]) (t:=68) ?hr ?_;(case hd=>rfl);(case hg=>rfl);(case hr=>first|(go_simp;done)|(go_simp;rfl));intro Ga hg w12 hbox hb;have n0_:=Q1.mk (Qf (g:=ZY) (by (with_reducible repeat (first|refine Q4 ?_ _|refine Q6 ?_|refine Q3 ?_ _));exact Z6.out) hb);have n1_:=Q1.mk (Qh (by repeat (first|(with_reducible first|exact HB.out|apply Q2|apply Q0|apply Q5|refine Q7 ?_ Jp.out)|exact HB.out)) hb);have n2_:=Q1.mk (hbox);have n3_:=Q1.mk ((by rw [hg];exact (Qe (by repeat (first|(with_reducible first|exact HB.out|apply Q2|apply Q0|apply Q5|refine Q7 ?_ Jp.out)|exact HB.out))):w.heap.size≤Ga));have n4_:=n3_;have n5_:=Q1.mk ((by rw [hg];exact Nat.ne_of_lt (QK (g:=ZY) (by (with_reducible repeat (first|refine Q4 ?_ _|refine Q6 ?_|refine Q3 ?_ _));exact Z6.out)):ZY≠Ga));have n6_:=Q1.mk (n5_.out.symm);clear Z6 HB;have Z6:=n0_;have HB:=n1_;have Gj:=n2_;have qnV:=n3_;have qcU:=n4_;have Jr:=n5_;have Um:=n6_;clear n0_ n1_ n2_ n3_ n4_ n5_ n6_ hb hbox hg;have qsM:=Um.out;have qs1:=Jr.out;have O7:w12.cell? ⟨Ga,0,none⟩=some (.int .i64 0):=(Q8 Gj.out 0).trans rfl;have O8:w12.cell? ⟨Ga,1,none⟩=some (.int .i64 0):=(Q8 Gj.out 1).trans rfl;have ON:w12.cell? ⟨Ga,2,none⟩=some (.int .i64 0):=(Q8 Gj.out 2).trans rfl;have Oc:=Q9 Gj.out 0;have Od:=Q9 Gj.out 1;have OX:=Q9 Gj.out 2)|(go_at_call 65;(with_reducible refine (Qj.calls ((Ya l0 ZG).f0) 0 10000 true _ A9.out).mono ?_);rintro e w' ⟨rfl,⟨nd,rfl⟩⟩)|(go_at_call 66;(with_reducible refine (ZH.calls ((Ya l0 ZG).f1.f0) ((Ya l0 ZG).f1.f1) 20 qch _ A11.out).mono ?_);rintro e w15 ⟨rfl,hb⟩;have n0_:=Q1.mk (Qf (g:=ZY) (o:=.cells #[.int .i64 0,.int .i64 0] 25 (0,0)) (by (with_reducible repeat (first|refine Q4 ?_ _|refine Q6 ?_|refine Q3 ?_ _));refine Qm ?_ Jr.out _;(with_reducible repeat (first|refine Q4 ?_ _|refine Q6 ?_|refine Q3 ?_ _));refine Qm ?_ Jr.out _;(with_reducible repeat (first|refine Q4 ?_ _|refine Q6 ?_|refine Q3 ?_ _));refine Qm ?_ Jr.out _;(with_reducible repeat (first|refine Q4 ?_ _|refine Q6 ?_|refine Q3 ?_ _));exact Z6.out) hb);have n1_:=Q1.mk (Qf (g:=Ga) (o:=.cells #[.int .i64 ((Ya l0 ZG).f0),.int .i64 ((Ya l0 ZG).f1.f0),.int .i64 ((Ya l0 ZG).f1.f1)] 68 (0,0)) (by (with_reducible repeat (first|refine Q4 ?_ _|refine Q6 ?_|refine Q3 ?_ _));refine Qv (cs:=#[.int .i64 ((Ya l0 ZG).f0),.int .i64 ((Ya l0 ZG).f1.f0),.int .i64 0]) ?_ 2 _ rfl;(with_reducible repeat (first|refine Q4 ?_ _|refine Q6 ?_|refine Q3 ?_ _));refine Qv (cs:=#[.int .i64 ((Ya l0 ZG).f0),.int .i64 0,.int .i64 0]) ?_ 1 _ rfl;(with_reducible repeat (first|refine Q4 ?_ _|refine Q6 ?_|refine Q3 ?_ _));refine Qv (cs:=#[.int .i64 0,.int .i64 0,.int .i64 0]) ?_ 0 _ rfl;(with_reducible repeat (first|refine Q4 ?_ _|refine Q6 ?_|refine Q3 ?_ _));exact Gj.out) hb);have n2_:=Q1.mk (Qh (by repeat (first|(with_reducible first|exact HB.out|apply Q2|apply Q0|apply Q5|refine Q7 ?_ Jp.out|refine Q7 ?_ qcU.out)|exact HB.out)) hb);clear Z6 Gj HB;have Z6:=n0_;have Gj:=n1_;have HB:=n2_;clear n0_ n1_ n2_;(try clear hb);(try clear hb2);(try clear hk);(try clear hi)))
        go_roundg k1
        case measure=>have:=HK1.out;omega
        case rel=>exact ⟨(qch),(wrap64 (ZG+1)),(by first|rfl|(simp;done)|(simp [*];done)),(by first|rfl|(simp;done)|(simp [*];done)),H',⟨by have:=HK1.out;omega⟩,⟨by (with_reducible repeat (first|refine Q4 ?_ _|refine Q6 ?_|refine Q3 ?_ _));exact Z6.out⟩,⟨by repeat (first|(with_reducible first|exact HB.out|apply Q2|apply Q0|apply Q5|refine Q7 ?_ Jp.out|refine Q7 ?_ qcU.out)|exact HB.out)⟩⟩
       replace c10:=Bool.eq_false_iff.mpr c10;subst c10
       have H1:(QS.l0 k1 l0 a1 a2 false l0 (l0.length:Int) (wrap64 (ZG+1)))=some (r1,r2,r3):=by rw [if_neg (show ¬ (false=true) by decide)] at H;exact H
       clear H;have H:=H1;clear H1;have H':=Q1.mk H;clear H;have XW:0≤(ZG:Int):=of_decide_eq_true (by first|(with_reducible assumption)|assumption);have XX:ZG<(l0.length:Int):=of_decide_eq_true (by first|(with_reducible assumption)|assumption);obtain ⟨qox,qkd,Gf,Gg,Gh⟩:=qdq HR0.out ZG XW XX;cases qkd;replace Gf:=(HB.out.cell (World.block_lt_of_cell? w _ Gf)).trans Gf;replace Gg:=(HB.out.cell (World.block_lt_of_cell? w _ Gg)).trans Gg;replace Gh:=(HB.out.cell (World.block_lt_of_cell? w _ Gh)).trans Gh;replace XW:=eq_true XW;replace XX:=eq_true XX
       go_wp2_with (first|((with_reducible refine QO (N:=10) rfl ?_);refine Yg ?hg (N:=10) ?hd (cs:=#[.int .i64 0,.int .i64 0,.int .i64 0]) (t:=68) ?hr ?_;(case hd=>rfl);(case hg=>rfl);(case hr=>first|(go_simp;done)|(go_simp;rfl));intro Ga hg w16 hbox hb;have n0_:=Q1.mk (Qf (g:=ZY) (by (with_reducible repeat (first|refine Q4 ?_ _|refine Q6 ?_|refine Q3 ?_ _));exact Z6.out) hb);have n1_:=Q1.mk (Qh (by repeat (first|(with_reducible first|exact HB.out|apply Q2|apply Q0|apply Q5|refine Q7 ?_ Jp.out)|exact HB.out)) hb);have n2_:=Q1.mk (hbox);have n3_:=Q1.mk ((by rw [hg];exact (Qe (by repeat (first|(with_reducible first|exact HB.out|apply Q2|apply Q0|apply Q5|refine Q7 ?_ Jp.out)|exact HB.out))):w.heap.size≤Ga));have n4_:=n3_;have n5_:=Q1.mk ((by rw [hg];exact Nat.ne_of_lt (QK (g:=ZY) (by (with_reducible repeat (first|refine Q4 ?_ _|refine Q6 ?_|refine Q3 ?_ _));exact Z6.out)):ZY≠Ga));have n6_:=Q1.mk (n5_.out.symm);clear Z6 HB;have Z6:=n0_;have HB:=n1_;have Gj:=n2_;have qnV:=n3_;have qcU:=n4_;have Jr:=n5_;have Um:=n6_;clear n0_ n1_ n2_ n3_ n4_ n5_ n6_ hb hbox hg;have qsO:=Um.out;have qs3:=Jr.out;have OR:w16.cell? ⟨Ga,0,none⟩=some (.int .i64 0):=(Q8 Gj.out 0).trans rfl;have OS:w16.cell? ⟨Ga,1,none⟩=some (.int .i64 0):=(Q8 Gj.out 1).trans rfl;have OT:w16.cell? ⟨Ga,2,none⟩=some (.int .i64 0):=(Q8 Gj.out 2).trans rfl;have U1:=Q9 Gj.out 0;have U2:=Q9 Gj.out 1;have U3:=Q9 Gj.out 2)|(go_at_call 65;(with_reducible refine (Qj.calls ((Ya l0 ZG).f0) 0 10000 false _ A9.out).mono ?_);rintro e w' ⟨rfl,⟨nd,rfl⟩⟩))
       go_roundg k1
       case measure=>have:=HK1.out;omega
       case rel=>exact ⟨(false),(wrap64 (ZG+1)),(by first|rfl|(simp;done)|(simp [*];done)),(by first|rfl|(simp;done)|(simp [*];done)),H',⟨by have:=HK1.out;omega⟩,⟨by (with_reducible repeat (first|refine Q4 ?_ _|refine Q6 ?_|refine Q3 ?_ _));refine Qm ?_ Jr.out _;(with_reducible repeat (first|refine Q4 ?_ _|refine Q6 ?_|refine Q3 ?_ _));refine Qm ?_ Jr.out _;(with_reducible repeat (first|refine Q4 ?_ _|refine Q6 ?_|refine Q3 ?_ _));refine Qm ?_ Jr.out _;(with_reducible repeat (first|refine Q4 ?_ _|refine Q6 ?_|refine Q3 ?_ _));exact Z6.out⟩,⟨by repeat (first|(with_reducible first|exact HB.out|apply Q2|apply Q0|apply Q5|refine Q7 ?_ Jp.out|refine Q7 ?_ qcU.out)|exact HB.out)⟩⟩
      replace c8:=Bool.eq_false_iff.mpr c8;subst c8
      have H1:(QS.l0 k1 l0 a1 a2 false l0 (l0.length:Int) (wrap64 (ZG+1)))=some (r1,r2,r3):=by rw [if_neg (show ¬ (false=true) by decide)] at H;exact H
      clear H;have H:=H1;clear H1;have H':=Q1.mk H;clear H;have XW:0≤(ZG:Int):=of_decide_eq_true (by first|(with_reducible assumption)|assumption);have XX:ZG<(l0.length:Int):=of_decide_eq_true (by first|(with_reducible assumption)|assumption);obtain ⟨qox,qkd,Gf,Gg,Gh⟩:=qdq HR0.out ZG XW XX;cases qkd;replace Gf:=(HB.out.cell (World.block_lt_of_cell? w _ Gf)).trans Gf;replace Gg:=(HB.out.cell (World.block_lt_of_cell? w _ Gg)).trans Gg;replace Gh:=(HB.out.cell (World.block_lt_of_cell? w _ Gh)).trans Gh;replace XW:=eq_true XW;replace XX:=eq_true XX
      go_wp2_with (first|((with_reducible refine QO (N:=10) rfl ?_);refine Yg ?hg (N:=10) ?hd (cs:=#[.int .i64 0,.int .i64 0,.int .i64 0]) (t:=68) ?hr ?_;(case hd=>rfl);(case hg=>rfl);(case hr=>first|(go_simp;done)|(go_simp;rfl));intro Ga hg w19 hbox hb;have n0_:=Q1.mk (Qf (g:=ZY) (by (with_reducible repeat (first|refine Q4 ?_ _|refine Q6 ?_|refine Q3 ?_ _));exact Z6.out) hb);have n1_:=Q1.mk (Qh (by repeat (first|(with_reducible first|exact HB.out|apply Q2|apply Q0|apply Q5|refine Q7 ?_ Jp.out)|exact HB.out)) hb);have n2_:=Q1.mk (hbox);have n3_:=Q1.mk ((by rw [hg];exact (Qe (by repeat (first|(with_reducible first|exact HB.out|apply Q2|apply Q0|apply Q5|refine Q7 ?_ Jp.out)|exact HB.out))):w.heap.size≤Ga));have n4_:=n3_;have n5_:=Q1.mk ((by rw [hg];exact Nat.ne_of_lt (QK (g:=ZY) (by (with_reducible repeat (first|refine Q4 ?_ _|refine Q6 ?_|refine Q3 ?_ _));exact Z6.out)):ZY≠Ga));have n6_:=Q1.mk (n5_.out.symm);clear Z6 HB;have Z6:=n0_;have HB:=n1_;have Gj:=n2_;have qnV:=n3_;have qcU:=n4_;have Jr:=n5_;have Um:=n6_;clear n0_ n1_ n2_ n3_ n4_ n5_ n6_ hb hbox hg;have qsP:=Um.out;have qs4:=Jr.out;have O9:w19.cell? ⟨Ga,0,none⟩=some (.int .i64 0):=(Q8 Gj.out 0).trans rfl;have Oa:w19.cell? ⟨Ga,1,none⟩=some (.int .i64 0):=(Q8 Gj.out 1).trans rfl;have Ob:w19.cell? ⟨Ga,2,none⟩=some (.int .i64 0):=(Q8 Gj.out 2).trans rfl;have Oe:=Q9 Gj.out 0;have Of:=Q9 Gj.out 1;have Og:=Q9 Gj.out 2))
      go_roundg k1
      case measure=>have:=HK1.out;omega
      case rel=>exact ⟨(false),(wrap64 (ZG+1)),(by first|rfl|(simp;done)|(simp [*];done)),(by first|rfl|(simp;done)|(simp [*];done)),H',⟨by have:=HK1.out;omega⟩,⟨by (with_reducible repeat (first|refine Q4 ?_ _|refine Q6 ?_|refine Q3 ?_ _));refine Qm ?_ Jr.out _;(with_reducible repeat (first|refine Q4 ?_ _|refine Q6 ?_|refine Q3 ?_ _));refine Qm ?_ Jr.out _;(with_reducible repeat (first|refine Q4 ?_ _|refine Q6 ?_|refine Q3 ?_ _));refine Qm ?_ Jr.out _;(with_reducible repeat (first|refine Q4 ?_ _|refine Q6 ?_|refine Q3 ?_ _));exact Z6.out⟩,⟨by repeat (first|(with_reducible first|exact HB.out|apply Q2|apply Q0|apply Q5|refine Q7 ?_ Jp.out|refine Q7 ?_ qcU.out)|exact HB.out)⟩⟩
     rw [if_neg c7] at H
     exact absurd H (by simp)
    rw [if_neg c6] at H
    exact absurd H (by simp)
   rw [if_neg c5] at H
   have c5b0:decide (ZG<(l0.length:Int))=false:=decide_eq_false c5
   clear c5
   by_cases c22:G6=true
   ·
    subst c22
    have H1:((Qj.f a1 0 20).bind fun t107=>(if t107=true then ((Qj.f a2 a1 20).bind fun qk5=>(QS.j1 k1 l0 a1 a2 (!qk5))) else (QS.j1 k1 l0 a1 a2 true)))=some (r1,r2,r3):=by rw [if_pos rfl] at H;exact H
    clear H;have H:=H1;clear H1;have qgn:=Q1.mk H;clear H
    go_upto_region 9 with (fail)
    go_cut [46] (fun v46 wc => ∃ (kq:Nat) (qeE:Bool),v46 = .bool qeE∧Q1 (QS.j1 kq l0 a1 a2 qeE=some (r1,r2,r3))∧Q1 (kq≤k1)∧Q1 (wc.heap[ZY]? = some (.cells #[.int .i64 0,.int .i64 0] 25 (0,0)))∧Q1 (Below w.heap.size w wc))
    case first =>
     have H:=qgn.out;clear qgn;replace H:=Option.bind_eq_some_iff.mp H;obtain ⟨t107,qeM,H⟩:=H;replace H:(if t107=true then ((Qj.f a2 a1 20).bind fun qk5=>(QS.j1 k1 l0 a1 a2 (!qk5))) else (QS.j1 k1 l0 a1 a2 true))=some (r1,r2,r3):=H;have A24:=Q1.mk qeM;clear qeM
     by_cases c25:t107=true
     ·
      subst c25
      have H1:((Qj.f a2 a1 20).bind fun qk5=>(QS.j1 k1 l0 a1 a2 (!qk5)))=some (r1,r2,r3):=by rw [if_pos rfl] at H;exact H
      clear H;have H:=H1;clear H1;replace H:=Option.bind_eq_some_iff.mp H;obtain ⟨qk5,qql,H⟩:=H;replace H:(QS.j1 k1 l0 a1 a2 (!qk5))=some (r1,r2,r3):=H;have A26:=Q1.mk qql;clear qql;have H':=Q1.mk H;clear H
      go_wp2_with (first|((with_reducible refine Qs (f:=65) rfl ?_);refine Yj (some 39) rfl rfl Try.func65 (by kernel_rfl) rfl #[.int .i64 a1,.int .i64 0,.int .i64 20] rfl (by (try simp only [List.map_toArray,List.map_cons,List.map_nil]);first|done|rfl|(simp only [List.length_drop,List.length_take];rfl)) ?_;(with_reducible refine (Qj.calls a1 0 20 true _ A24.out).mono ?_);rintro e w' ⟨rfl,⟨nd,rfl⟩⟩;refine ⟨_,rfl,?_⟩)|(go_at_call 65;(with_reducible refine (Qj.calls a2 a1 20 qk5 _ A26.out).mono ?_);rintro e w' ⟨rfl,⟨nd,rfl⟩⟩))
      go_meet
      case rel=>exact ⟨_,(!qk5),(by first|rfl|(simp;done)|(simp [*];done)),H',⟨by have:=HK1.out;first|omega|exact Nat.le_refl _⟩,⟨by (with_reducible repeat (first|refine Q4 ?_ _|refine Q6 ?_|refine Q3 ?_ _));exact Z6.out⟩,⟨by repeat (first|(with_reducible first|exact HB.out|apply Q2|apply Q0|apply Q5|refine Q7 ?_ Jp.out)|exact HB.out)⟩⟩
     replace c25:=Bool.eq_false_iff.mpr c25;subst c25
     have H1:(QS.j1 k1 l0 a1 a2 true)=some (r1,r2,r3):=by rw [if_neg (show ¬ (false=true) by decide)] at H;exact H
     clear H;have H:=H1;clear H1;have H':=Q1.mk H;clear H
     go_wp2_with (first|((with_reducible refine Qs (f:=65) rfl ?_);refine Yj (some 39) rfl rfl Try.func65 (by kernel_rfl) rfl #[.int .i64 a1,.int .i64 0,.int .i64 20] rfl (by (try simp only [List.map_toArray,List.map_cons,List.map_nil]);first|done|rfl|(simp only [List.length_drop,List.length_take];rfl)) ?_;(with_reducible refine (Qj.calls a1 0 20 false _ A24.out).mono ?_);rintro e w' ⟨rfl,⟨nd,rfl⟩⟩;refine ⟨_,rfl,?_⟩))
     go_meet
     case rel=>exact ⟨_,(true),(by first|rfl|(simp;done)|(simp [*];done)),H',⟨by have:=HK1.out;first|omega|exact Nat.le_refl _⟩,⟨by (with_reducible repeat (first|refine Q4 ?_ _|refine Q6 ?_|refine Q3 ?_ _));exact Z6.out⟩,⟨by repeat (first|(with_reducible first|exact HB.out|apply Q2|apply Q0|apply Q5|refine Q7 ?_ Jp.out)|exact HB.out)⟩⟩
    case rest =>
     clear qgn;(try clear c1);(try clear p1);(try clear q1);(try clear hx1);(try clear c2);(try clear p2);(try clear c5);(try clear c5b0);(try clear c6);(try clear c6b0);(try clear p6);(try clear c7);(try clear c7b0);(try clear c8);(try clear c10);(try clear p10);(try clear q10);(try clear qtk);(try clear c13);(try clear c17);(try clear c19);(try clear c20);(try clear c22);(try clear c25);(try clear O7);(try clear O8);(try clear ON);(try clear OR);(try clear OS);(try clear OT);(try clear O9);(try clear Oa);(try clear Ob);(try clear Oc);(try clear Od);(try clear OX);(try clear U1);(try clear U2);(try clear U3);(try clear Oe);(try clear Of);(try clear Og);(try clear Gf);(try clear Gg);(try clear Gh);(try clear XW);(try clear p2);(try clear XX);obtain ⟨kq,qeE,rfl,HA,Uc,Z6,HB⟩:=hcut
     cases kq with
     | zero=>exact absurd HA.out (by simp [QS.j1])
     | succ UW =>
      have H:=HA.out;clear HA;simp only [QS.j1] at H
      by_cases c27:qeE=true
      ·
       subst c27
       have H1:(some (0,0,7))=some (r1,r2,r3):=by rw [if_pos rfl] at H;exact H
       clear H;have H:=H1;clear H1;simp only [Option.some.injEq,Prod.mk.injEq] at H;obtain ⟨rfl,rfl,rfl⟩:=H;have qdE:wc.cell? ⟨ZY,0,none⟩=some (.int .i64 0):=(Q8 Z6.out 0).trans rfl;have qdF:wc.cell? ⟨ZY,1,none⟩=some (.int .i64 0):=(Q8 Z6.out 1).trans rfl;have qdQ:=Q9 Z6.out 0;have qdR:=Q9 Z6.out 1
       go_wp2
       refine bodyPost_ret (WZ rfl _ _ ZY 25 #[.int .i64 0,.int .i64 0] (0,0) _ rfl (by (with_reducible repeat (first|refine Q4 ?_ _|refine Q6 ?_|refine Q3 ?_ _));refine Qv (cs:=#[.int .i64 0,.int .i64 0]) ?_ 1 _ rfl;(with_reducible repeat (first|refine Q4 ?_ _|refine Q6 ?_|refine Q3 ?_ _));refine Qv (cs:=#[.int .i64 0,.int .i64 0]) ?_ 0 _ rfl;(with_reducible repeat (first|refine Q4 ?_ _|refine Q6 ?_|refine Q3 ?_ _));exact Z6.out) Try.underlying25 rfl (by kernel_rfl)) rfl ?_
       exact ⟨by first|rfl|(simp [Qp,Qq]<;>rfl)|(simp [*,Qp,Qq]<;>rfl),by repeat (first|(with_reducible first|exact HB.out|apply Q2|apply Q0|apply Q5|refine Q7 ?_ Jp.out)|exact HB.out)⟩
      replace c27:=Bool.eq_false_iff.mpr c27;subst c27
      have H1:(QS.l1 UW a1 a2 l0 (l0.length:Int) 0 0 0)=some (r1,r2,r3):=by rw [if_neg (show ¬ (false=true) by decide)] at H;exact H
      clear H;have H:=H1;clear H1;have H':=Q1.mk H;clear H
      go_wp2_with (first|((with_reducible refine QO (N:=11) rfl ?_);refine Yg ?hg (N:=11) ?hd (cs:=#[.int .i64 0,.int .i64 0]) (t:=25) ?hr ?_;(case hd=>rfl);(case hg=>rfl);(case hr=>first|(go_simp;done)|(go_simp;rfl));intro GI hg w29 hbox hb;have n0_:=Q1.mk (Qf (g:=ZY) (by (with_reducible repeat (first|refine Q4 ?_ _|refine Q6 ?_|refine Q3 ?_ _));exact Z6.out) hb);have n1_:=Q1.mk (Qh (by repeat (first|(with_reducible first|exact HB.out|apply Q2|apply Q0|apply Q5|refine Q7 ?_ Jp.out)|exact HB.out)) hb);have n2_:=Q1.mk (hbox);have n3_:=Q1.mk ((by rw [hg];exact (Qe (by repeat (first|(with_reducible first|exact HB.out|apply Q2|apply Q0|apply Q5|refine Q7 ?_ Jp.out)|exact HB.out))):w.heap.size≤GI));have n4_:=n3_;have n5_:=Q1.mk ((by rw [hg];exact Nat.ne_of_lt (QK (g:=ZY) (by (with_reducible repeat (first|refine Q4 ?_ _|refine Q6 ?_|refine Q3 ?_ _));exact Z6.out)):ZY≠GI));have n6_:=Q1.mk (n5_.out.symm);clear Z6 HB;have Z6:=n0_;have HB:=n1_;have Jf:=n2_;have qBk:=n3_;have Uj:=n4_;have G1:=n5_;have Un:=n6_;clear n0_ n1_ n2_ n3_ n4_ n5_ n6_ hb hbox hg))
      go_loopg [50] UW (fun kq v50 w' => ∃ (Yy:Int) (YN:Int) (YO:Int),v50 = .int .i64 Yy∧Q1 (QS.l1 kq a1 a2 l0 (l0.length:Int) Yy YN YO=some (r1,r2,r3))∧Q1 (kq≤UW)∧Q1 (w'.heap[ZY]? = some (.cells #[.int .i64 0,.int .i64 0] 25 (0,0)))∧Q1 (w'.heap[GI]? = some (.cells #[.int .i64 YN,.int .i64 YO] 25 (0,0)))∧Q1 (Below w.heap.size w w'))
      case atStart=>exact ⟨(0),(0),(0),(by first|rfl|(simp;done)|(simp [*];done)),H',⟨Nat.le_refl _⟩,⟨by (with_reducible repeat (first|refine Q4 ?_ _|refine Q6 ?_|refine Q3 ?_ _));exact Z6.out⟩,⟨by (with_reducible repeat (first|refine Q4 ?_ _|refine Q6 ?_|refine Q3 ?_ _));exact Jf.out⟩,⟨by repeat (first|(with_reducible first|exact HB.out|apply Q2|apply Q0|apply Q5|refine Q7 ?_ Jp.out|refine Q7 ?_ Uj.out)|exact HB.out)⟩⟩
      case round =>
       clear H';(try clear c1);(try clear p1);(try clear q1);(try clear hx1);(try clear c2);(try clear p2);(try clear c5);(try clear c5b0);(try clear c6);(try clear c6b0);(try clear p6);(try clear c7);(try clear c7b0);(try clear c8);(try clear c10);(try clear p10);(try clear q10);(try clear qtk);(try clear c13);(try clear c17);(try clear c19);(try clear c20);(try clear c22);(try clear c25);(try clear c27);(try clear O7);(try clear O8);(try clear ON);(try clear OR);(try clear OS);(try clear OT);(try clear O9);(try clear Oa);(try clear Ob);(try clear qdE);(try clear qdF);(try clear Oc);(try clear Od);(try clear OX);(try clear U1);(try clear U2);(try clear U3);(try clear Oe);(try clear Of);(try clear Og);(try clear qdQ);(try clear qdR);(try clear Gf);(try clear Gg);(try clear Gh);(try clear p1);(try clear p10);(try clear XW);(try clear p2);(try clear p6);(try clear q1);(try clear q10);(try clear XX);obtain ⟨Yy,YN,YO,rfl,HA,HK3,Z6,Jf,HB⟩:=hrel
       cases gk with
       | zero=>exact absurd HA.out (by simp [QS.l1])
       | succ k3 =>
        have H:=HA.out;clear HA;simp only [QS.l1] at H
        by_cases c30:Yy<(l0.length:Int)
        ·
         rw [if_pos c30] at H;have c30b0:decide (Yy<(l0.length:Int))=true:=decide_eq_true c30;clear c30
         by_cases c31:0≤Yy
         ·
          rw [if_pos c31] at H;have c31b0:decide (0≤Yy)=true:=decide_eq_true c31;clear c31
          by_cases c32:Yy<(l0.length:Int)
          ·
           rw [if_pos c32] at H;have c32b0:decide (Yy<(l0.length:Int))=true:=decide_eq_true c32;clear c32;have qoY:=Q1.mk H;clear H;have qnn:0≤(Yy:Int):=of_decide_eq_true (by first|(with_reducible assumption)|assumption);have qnv:Yy<(l0.length:Int):=of_decide_eq_true (by first|(with_reducible assumption)|assumption);obtain ⟨qBy,qzW,qby,qbz,qbA⟩:=qdq HR0.out Yy qnn qnv;cases qzW;replace qby:=(HB.out.cell (World.block_lt_of_cell? w _ qby)).trans qby;replace qbz:=(HB.out.cell (World.block_lt_of_cell? w _ qbz)).trans qbz;replace qbA:=(HB.out.cell (World.block_lt_of_cell? w _ qbA)).trans qbA;replace qnn:=eq_true qnn;replace qnv:=eq_true qnv
           go_upto_region 15 with (first|((with_reducible refine QO (N:=13) rfl ?_);refine Yg ?hg (N:=13) ?hd (cs:=#[.int .i64 0,.int .i64 0,.int .i64 0]) (t:=68) ?hr ?_;(case hd=>rfl);(case hg=>rfl);(case hr=>first|(go_simp;done)|(go_simp;rfl));intro Ju hg w34 hbox hb;have n0_:=Q1.mk (Qf (g:=ZY) (by (with_reducible repeat (first|refine Q4 ?_ _|refine Q6 ?_|refine Q3 ?_ _));exact Z6.out) hb);have n1_:=Q1.mk (Qf (g:=GI) (by (with_reducible repeat (first|refine Q4 ?_ _|refine Q6 ?_|refine Q3 ?_ _));exact Jf.out) hb);have n2_:=Q1.mk (Qh (by repeat (first|(with_reducible first|exact HB.out|apply Q2|apply Q0|apply Q5|refine Q7 ?_ Jp.out|refine Q7 ?_ Uj.out)|exact HB.out)) hb);have n3_:=Q1.mk (hbox);have n4_:=Q1.mk ((by rw [hg];exact (Qe (by repeat (first|(with_reducible first|exact HB.out|apply Q2|apply Q0|apply Q5|refine Q7 ?_ Jp.out|refine Q7 ?_ Uj.out)|exact HB.out))):w.heap.size≤Ju));have n5_:=n4_;have n6_:=Q1.mk ((by rw [hg];exact Nat.ne_of_lt (QK (g:=ZY) (by (with_reducible repeat (first|refine Q4 ?_ _|refine Q6 ?_|refine Q3 ?_ _));exact Z6.out)):ZY≠Ju));have n7_:=Q1.mk (n6_.out.symm);have n8_:=Q1.mk ((by rw [hg];exact Nat.ne_of_lt (QK (g:=GI) (by (with_reducible repeat (first|refine Q4 ?_ _|refine Q6 ?_|refine Q3 ?_ _));exact Jf.out)):GI≠Ju));have n9_:=Q1.mk (n8_.out.symm);clear Z6 Jf HB;have Z6:=n0_;have Jf:=n1_;have HB:=n2_;have Zl:=n3_;have qBl:=n4_;have qaA:=n5_;have Jd:=n6_;have Gu:=n7_;have Je:=n8_;have Gv:=n9_;clear n0_ n1_ n2_ n3_ n4_ n5_ n6_ n7_ n8_ n9_ hb hbox hg;have qsQ:=Gu.out;have qs5:=Jd.out;have qsR:=Gv.out;have qs6:=Je.out;have ql6:w34.cell? ⟨Ju,0,none⟩=some (.int .i64 0):=(Q8 Zl.out 0).trans rfl;have ql7:w34.cell? ⟨Ju,1,none⟩=some (.int .i64 0):=(Q8 Zl.out 1).trans rfl;have ql8:w34.cell? ⟨Ju,2,none⟩=some (.int .i64 0):=(Q8 Zl.out 2).trans rfl;have qmI:=Q9 Zl.out 0;have qmJ:=Q9 Zl.out 1;have qmK:=Q9 Zl.out 2))
           (try simp only [Act.put,List.setIfInBounds_toArray,List.set_cons_zero,List.set_cons_succ])
           go_cut [65] (fun v65 wc => ∃ (kq:Nat) (qeG:Bool),v65 = .bool qeG∧Q1 (QS.j3 kq a1 a2 l0 (l0.length:Int) Yy qeG YN YO ((Ya l0 Yy).f0) ((Ya l0 Yy).f1.f0) ((Ya l0 Yy).f1.f1)=some (r1,r2,r3))∧Q1 (kq≤k3)∧Q1 (wc.heap[ZY]? = some (.cells #[.int .i64 0,.int .i64 0] 25 (0,0)))∧Q1 (wc.heap[GI]? = some (.cells #[.int .i64 YN,.int .i64 YO] 25 (0,0)))∧Q1 (wc.heap[Ju]? = some (.cells #[.int .i64 ((Ya l0 Yy).f0),.int .i64 ((Ya l0 Yy).f1.f0),.int .i64 ((Ya l0 Yy).f1.f1)] 68 (0,0)))∧Q1 (Below w.heap.size w wc))
           case first =>
            have H:=qoY.out;clear qoY
            by_cases c38:a1≤((Ya l0 Yy).f1.f0)
            ·
             rw [if_pos c38] at H;have c38b0:decide (a1≤((Ya l0 Yy).f1.f0))=true:=decide_eq_true c38;clear c38
             (first|rw [c38b0]|(simp only [Yh,Yk];rw [c38b0])|skip)
             have H':=Q1.mk H;clear H;have qoG:=Gu.out;have qoH:=Jd.out;have qsS:=Gv.out;have qs7:=Je.out;have qh0:w34.cell? ⟨Ju,0,none⟩=some (.int .i64 0):=(Q8 Zl.out 0).trans rfl;have qh1:w34.cell? ⟨Ju,1,none⟩=some (.int .i64 0):=(Q8 Zl.out 1).trans rfl;have qh2:w34.cell? ⟨Ju,2,none⟩=some (.int .i64 0):=(Q8 Zl.out 2).trans rfl;have qh3:=Q9 Zl.out 0;have qh4:=Q9 Zl.out 1;have qh5:=Q9 Zl.out 2
             go_wp2
             go_meet
             case rel=>exact ⟨_,(decide (((Ya l0 Yy).f1.f1)≤a2)),(by first|rfl|(simp;done)|(simp [*];done)),H',⟨by have:=HK1.out;have:=Uc.out;have:=HK3.out;first|omega|exact Nat.le_refl _⟩,⟨by (with_reducible repeat (first|refine Q4 ?_ _|refine Q6 ?_|refine Q3 ?_ _));refine Qm ?_ Jd.out _;(with_reducible repeat (first|refine Q4 ?_ _|refine Q6 ?_|refine Q3 ?_ _));refine Qm ?_ Jd.out _;(with_reducible repeat (first|refine Q4 ?_ _|refine Q6 ?_|refine Q3 ?_ _));refine Qm ?_ Jd.out _;(with_reducible repeat (first|refine Q4 ?_ _|refine Q6 ?_|refine Q3 ?_ _));exact Z6.out⟩,⟨by (with_reducible repeat (first|refine Q4 ?_ _|refine Q6 ?_|refine Q3 ?_ _));refine Qm ?_ Je.out _;(with_reducible repeat (first|refine Q4 ?_ _|refine Q6 ?_|refine Q3 ?_ _));refine Qm ?_ Je.out _;(with_reducible repeat (first|refine Q4 ?_ _|refine Q6 ?_|refine Q3 ?_ _));refine Qm ?_ Je.out _;(with_reducible repeat (first|refine Q4 ?_ _|refine Q6 ?_|refine Q3 ?_ _));exact Jf.out⟩,⟨by (with_reducible repeat (first|refine Q4 ?_ _|refine Q6 ?_|refine Q3 ?_ _));refine Qv (cs:=#[.int .i64 ((Ya l0 Yy).f0),.int .i64 ((Ya l0 Yy).f1.f0),.int .i64 0]) ?_ 2 _ rfl;(with_reducible repeat (first|refine Q4 ?_ _|refine Q6 ?_|refine Q3 ?_ _));refine Qv (cs:=#[.int .i64 ((Ya l0 Yy).f0),.int .i64 0,.int .i64 0]) ?_ 1 _ rfl;(with_reducible repeat (first|refine Q4 ?_ _|refine Q6 ?_|refine Q3 ?_ _));refine Qv (cs:=#[.int .i64 0,.int .i64 0,.int .i64 0]) ?_ 0 _ rfl;(with_reducible repeat (first|refine Q4 ?_ _|refine Q6 ?_|refine Q3 ?_ _));exact Zl.out⟩,⟨by repeat (first|(with_reducible first|exact HB.out|apply Q2|apply Q0|apply Q5|refine Q7 ?_ Jp.out|refine Q7 ?_ Uj.out|refine Q7 ?_ qaA.out)|exact HB.out)⟩⟩
            rw [if_neg c38] at H;have c38b0:decide (a1≤((Ya l0 Yy).f1.f0))=false:=decide_eq_false c38;clear c38
            (first|rw [c38b0]|(simp only [Yh,Yk];rw [c38b0])|skip)
            have H':=Q1.mk H;clear H;have qsT:=Gu.out;have qs8:=Jd.out;have qCh:=Gv.out;have qCS:=Je.out;have qmf:w34.cell? ⟨Ju,0,none⟩=some (.int .i64 0):=(Q8 Zl.out 0).trans rfl;have qmg:w34.cell? ⟨Ju,1,none⟩=some (.int .i64 0):=(Q8 Zl.out 1).trans rfl;have qmh:w34.cell? ⟨Ju,2,none⟩=some (.int .i64 0):=(Q8 Zl.out 2).trans rfl;have qmR:=Q9 Zl.out 0;have qmS:=Q9 Zl.out 1;have qmT:=Q9 Zl.out 2
            go_wp2
            go_meet
            case rel=>exact ⟨_,(false),(by first|rfl|(simp;done)|(simp [*];done)),H',⟨by have:=HK1.out;have:=Uc.out;have:=HK3.out;first|omega|exact Nat.le_refl _⟩,⟨by (with_reducible repeat (first|refine Q4 ?_ _|refine Q6 ?_|refine Q3 ?_ _));refine Qm ?_ Jd.out _;(with_reducible repeat (first|refine Q4 ?_ _|refine Q6 ?_|refine Q3 ?_ _));refine Qm ?_ Jd.out _;(with_reducible repeat (first|refine Q4 ?_ _|refine Q6 ?_|refine Q3 ?_ _));refine Qm ?_ Jd.out _;(with_reducible repeat (first|refine Q4 ?_ _|refine Q6 ?_|refine Q3 ?_ _));exact Z6.out⟩,⟨by (with_reducible repeat (first|refine Q4 ?_ _|refine Q6 ?_|refine Q3 ?_ _));refine Qm ?_ Je.out _;(with_reducible repeat (first|refine Q4 ?_ _|refine Q6 ?_|refine Q3 ?_ _));refine Qm ?_ Je.out _;(with_reducible repeat (first|refine Q4 ?_ _|refine Q6 ?_|refine Q3 ?_ _));refine Qm ?_ Je.out _;(with_reducible repeat (first|refine Q4 ?_ _|refine Q6 ?_|refine Q3 ?_ _));exact Jf.out⟩,⟨by (with_reducible repeat (first|refine Q4 ?_ _|refine Q6 ?_|refine Q3 ?_ _));refine Qv (cs:=#[.int .i64 ((Ya l0 Yy).f0),.int .i64 ((Ya l0 Yy).f1.f0),.int .i64 0]) ?_ 2 _ rfl;(with_reducible repeat (first|refine Q4 ?_ _|refine Q6 ?_|refine Q3 ?_ _));refine Qv (cs:=#[.int .i64 ((Ya l0 Yy).f0),.int .i64 0,.int .i64 0]) ?_ 1 _ rfl;(with_reducible repeat (first|refine Q4 ?_ _|refine Q6 ?_|refine Q3 ?_ _));refine Qv (cs:=#[.int .i64 0,.int .i64 0,.int .i64 0]) ?_ 0 _ rfl;(with_reducible repeat (first|refine Q4 ?_ _|refine Q6 ?_|refine Q3 ?_ _));exact Zl.out⟩,⟨by repeat (first|(with_reducible first|exact HB.out|apply Q2|apply Q0|apply Q5|refine Q7 ?_ Jp.out|refine Q7 ?_ Uj.out|refine Q7 ?_ qaA.out)|exact HB.out)⟩⟩
           case rest =>
            clear qoY;(try clear c1);(try clear p1);(try clear q1);(try clear hx1);(try clear c2);(try clear p2);(try clear c3);(try clear c4);(try clear c5);(try clear c5b0);(try clear c6);(try clear c6b0);(try clear p6);(try clear c7);(try clear c7b0);(try clear c8);(try clear c10);(try clear p10);(try clear q10);(try clear qtk);(try clear p11);(try clear q11);(try clear qEp);(try clear c13);(try clear c17);(try clear c19);(try clear c20);(try clear c22);(try clear c25);(try clear c27);(try clear c30);(try clear c30b0);(try clear c31);(try clear c31b0);(try clear c32);(try clear c32b0);(try clear c35);(try clear c36);(try clear c38);(try clear c38b0);(try clear c39);(try clear c40);(try clear c42);(try clear c43);(try clear O7);(try clear O8);(try clear ON);(try clear OR);(try clear OS);(try clear OT);(try clear O9);(try clear Oa);(try clear Ob);(try clear qdE);(try clear qdF);(try clear ql6);(try clear ql7);(try clear ql8);(try clear qh0);(try clear qh1);(try clear qh2);(try clear qmf);(try clear qmg);(try clear qmh);(try clear Oc);(try clear Od);(try clear OX);(try clear U1);(try clear U2);(try clear U3);(try clear Oe);(try clear Of);(try clear Og);(try clear qdQ);(try clear qdR);(try clear qmI);(try clear qmJ);(try clear qmK);(try clear qh3);(try clear qh4);(try clear qh5);(try clear qmR);(try clear qmS);(try clear qmT);(try clear Gf);(try clear Gg);(try clear Gh);(try clear qby);(try clear qbz);(try clear qbA);(try clear p1);(try clear p10);(try clear XW);(try clear qnn);(try clear p2);(try clear p6);(try clear q1);(try clear q10);(try clear XX);(try clear qnv);obtain ⟨kq,qeG,rfl,HA,qaT,Z6,Jf,Zl,HB⟩:=hcut
            cases kq with
            | zero=>exact absurd HA.out (by simp [QS.j3])
            | succ qaU =>
             have H:=HA.out;clear HA;simp only [QS.j3] at H
             by_cases c45:qeG=true
             ·
              subst c45
              have H1:(if a1≤((Ya l0 Yy).f1.f1) then (if ((Ya l0 Yy).f1.f0)≤a2 then (QS.l1 qaU a1 a2 l0 (l0.length:Int) (wrap64 (Yy+1)) (wrap64 (YN+((Ya l0 Yy).f0))) (wrap64 (YO+((Ya l0 Yy).f0)))) else (QS.l1 qaU a1 a2 l0 (l0.length:Int) (wrap64 (Yy+1)) (wrap64 (YN+((Ya l0 Yy).f0))) YO)) else (QS.l1 qaU a1 a2 l0 (l0.length:Int) (wrap64 (Yy+1)) (wrap64 (YN+((Ya l0 Yy).f0))) YO))=some (r1,r2,r3):=by rw [if_pos rfl] at H;exact H
              clear H;have H:=H1;clear H1
              by_cases c46:a1≤((Ya l0 Yy).f1.f1)
              ·
               rw [if_pos c46] at H;have c46b0:decide (a1≤((Ya l0 Yy).f1.f1))=true:=decide_eq_true c46;clear c46
               by_cases c47:((Ya l0 Yy).f1.f0)≤a2
               ·
                rw [if_pos c47] at H;have c47b0:decide (((Ya l0 Yy).f1.f0)≤a2)=true:=decide_eq_true c47;clear c47;have H':=Q1.mk H;clear H;have qsU:=Un.out;have qs9:=G1.out;have qsV:=Je.out;have qta:=Gv.out;have qmi:wc.cell? ⟨GI,0,none⟩=some (.int .i64 YN):=(Q8 Jf.out 0).trans rfl;have qmj:wc.cell? ⟨GI,1,none⟩=some (.int .i64 YO):=(Q8 Jf.out 1).trans rfl;have qmU:=Q9 Jf.out 0;have qmV:=Q9 Jf.out 1;have qCk:=Gu.out;have qCV:=Jd.out;have qun:wc.cell? ⟨Ju,0,none⟩=some (.int .i64 ((Ya l0 Yy).f0)):=(Q8 Zl.out 0).trans rfl;have qup:wc.cell? ⟨Ju,1,none⟩=some (.int .i64 ((Ya l0 Yy).f1.f0)):=(Q8 Zl.out 1).trans rfl;have quq:wc.cell? ⟨Ju,2,none⟩=some (.int .i64 ((Ya l0 Yy).f1.f1)):=(Q8 Zl.out 2).trans rfl;have qwp:=Q9 Zl.out 0;have qwq:=Q9 Zl.out 1;have qwr:=Q9 Zl.out 2
                go_wp2
                go_roundg qaU
                case measure=>have:=HK1.out;have:=Uc.out;have:=HK3.out;have:=qaT.out;omega
                case rel=>exact ⟨(wrap64 (Yy+1)),(wrap64 (YN+((Ya l0 Yy).f0))),(wrap64 (YO+((Ya l0 Yy).f0))),(by first|rfl|(simp;done)|(simp [*];done)),H',⟨by have:=HK1.out;have:=Uc.out;have:=HK3.out;have:=qaT.out;omega⟩,⟨by (with_reducible repeat (first|refine Q4 ?_ _|refine Q6 ?_|refine Q3 ?_ _));refine Qm ?_ G1.out _;(with_reducible repeat (first|refine Q4 ?_ _|refine Q6 ?_|refine Q3 ?_ _));refine Qm ?_ G1.out _;(with_reducible repeat (first|refine Q4 ?_ _|refine Q6 ?_|refine Q3 ?_ _));exact Z6.out⟩,⟨by (with_reducible repeat (first|refine Q4 ?_ _|refine Q6 ?_|refine Q3 ?_ _));refine Qv (cs:=#[.int .i64 (wrap64 (YN+((Ya l0 Yy).f0))),.int .i64 YO]) ?_ 1 _ rfl;(with_reducible repeat (first|refine Q4 ?_ _|refine Q6 ?_|refine Q3 ?_ _));refine Qv (cs:=#[.int .i64 YN,.int .i64 YO]) ?_ 0 _ rfl;(with_reducible repeat (first|refine Q4 ?_ _|refine Q6 ?_|refine Q3 ?_ _));exact Jf.out⟩,⟨by repeat (first|(with_reducible first|exact HB.out|apply Q2|apply Q0|apply Q5|refine Q7 ?_ Jp.out|refine Q7 ?_ Uj.out|refine Q7 ?_ qaA.out)|exact HB.out)⟩⟩
               rw [if_neg c47] at H;have c47b0:decide (((Ya l0 Yy).f1.f0)≤a2)=false:=decide_eq_false c47;clear c47;have H':=Q1.mk H;clear H;have qCl:=Un.out;have qCW:=G1.out;have qCm:=Je.out;have qCX:=Gv.out;have qur:wc.cell? ⟨GI,0,none⟩=some (.int .i64 YN):=(Q8 Jf.out 0).trans rfl;have qus:wc.cell? ⟨GI,1,none⟩=some (.int .i64 YO):=(Q8 Jf.out 1).trans rfl;have qws:=Q9 Jf.out 0;have qwt:=Q9 Jf.out 1;have qCn:=Gu.out;have qCY:=Jd.out;have qut:wc.cell? ⟨Ju,0,none⟩=some (.int .i64 ((Ya l0 Yy).f0)):=(Q8 Zl.out 0).trans rfl;have quu:wc.cell? ⟨Ju,1,none⟩=some (.int .i64 ((Ya l0 Yy).f1.f0)):=(Q8 Zl.out 1).trans rfl;have quv:wc.cell? ⟨Ju,2,none⟩=some (.int .i64 ((Ya l0 Yy).f1.f1)):=(Q8 Zl.out 2).trans rfl;have qwu:=Q9 Zl.out 0;have qwv:=Q9 Zl.out 1;have qww:=Q9 Zl.out 2
               go_wp2
               go_roundg qaU
               case measure=>have:=HK1.out;have:=Uc.out;have:=HK3.out;have:=qaT.out;omega
               case rel=>exact ⟨(wrap64 (Yy+1)),(wrap64 (YN+((Ya l0 Yy).f0))),(YO),(by first|rfl|(simp;done)|(simp [*];done)),H',⟨by have:=HK1.out;have:=Uc.out;have:=HK3.out;have:=qaT.out;omega⟩,⟨by (with_reducible repeat (first|refine Q4 ?_ _|refine Q6 ?_|refine Q3 ?_ _));refine Qm ?_ G1.out _;(with_reducible repeat (first|refine Q4 ?_ _|refine Q6 ?_|refine Q3 ?_ _));exact Z6.out⟩,⟨by (with_reducible repeat (first|refine Q4 ?_ _|refine Q6 ?_|refine Q3 ?_ _));refine Qv (cs:=#[.int .i64 YN,.int .i64 YO]) ?_ 0 _ rfl;(with_reducible repeat (first|refine Q4 ?_ _|refine Q6 ?_|refine Q3 ?_ _));exact Jf.out⟩,⟨by repeat (first|(with_reducible first|exact HB.out|apply Q2|apply Q0|apply Q5|refine Q7 ?_ Jp.out|refine Q7 ?_ Uj.out|refine Q7 ?_ qaA.out)|exact HB.out)⟩⟩
              rw [if_neg c46] at H;have c46b0:decide (a1≤((Ya l0 Yy).f1.f1))=false:=decide_eq_false c46;clear c46;have H':=Q1.mk H;clear H;have qsW:=Un.out;have qtb:=G1.out;have qsX:=Je.out;have qtc:=Gv.out;have quw:wc.cell? ⟨GI,0,none⟩=some (.int .i64 YN):=(Q8 Jf.out 0).trans rfl;have qux:wc.cell? ⟨GI,1,none⟩=some (.int .i64 YO):=(Q8 Jf.out 1).trans rfl;have qwx:=Q9 Jf.out 0;have qwy:=Q9 Jf.out 1;have qCp:=Gu.out;have qC0:=Jd.out;have quz:wc.cell? ⟨Ju,0,none⟩=some (.int .i64 ((Ya l0 Yy).f0)):=(Q8 Zl.out 0).trans rfl;have quA:wc.cell? ⟨Ju,1,none⟩=some (.int .i64 ((Ya l0 Yy).f1.f0)):=(Q8 Zl.out 1).trans rfl;have quB:wc.cell? ⟨Ju,2,none⟩=some (.int .i64 ((Ya l0 Yy).f1.f1)):=(Q8 Zl.out 2).trans rfl;have qwA:=Q9 Zl.out 0;have qwB:=Q9 Zl.out 1;have qwC:=Q9 Zl.out 2
              go_wp2
              go_roundg qaU
              case measure=>have:=HK1.out;have:=Uc.out;have:=HK3.out;have:=qaT.out;omega
              case rel=>exact ⟨(wrap64 (Yy+1)),(wrap64 (YN+((Ya l0 Yy).f0))),(YO),(by first|rfl|(simp;done)|(simp [*];done)),H',⟨by have:=HK1.out;have:=Uc.out;have:=HK3.out;have:=qaT.out;omega⟩,⟨by (with_reducible repeat (first|refine Q4 ?_ _|refine Q6 ?_|refine Q3 ?_ _));refine Qm ?_ G1.out _;(with_reducible repeat (first|refine Q4 ?_ _|refine Q6 ?_|refine Q3 ?_ _));exact Z6.out⟩,⟨by (with_reducible repeat (first|refine Q4 ?_ _|refine Q6 ?_|refine Q3 ?_ _));refine Qv (cs:=#[.int .i64 YN,.int .i64 YO]) ?_ 0 _ rfl;(with_reducible repeat (first|refine Q4 ?_ _|refine Q6 ?_|refine Q3 ?_ _));exact Jf.out⟩,⟨by repeat (first|(with_reducible first|exact HB.out|apply Q2|apply Q0|apply Q5|refine Q7 ?_ Jp.out|refine Q7 ?_ Uj.out|refine Q7 ?_ qaA.out)|exact HB.out)⟩⟩
             replace c45:=Bool.eq_false_iff.mpr c45;subst c45
             have H1:(if a1≤((Ya l0 Yy).f1.f1) then (if ((Ya l0 Yy).f1.f0)≤a2 then (QS.l1 qaU a1 a2 l0 (l0.length:Int) (wrap64 (Yy+1)) YN (wrap64 (YO+((Ya l0 Yy).f0)))) else (QS.l1 qaU a1 a2 l0 (l0.length:Int) (wrap64 (Yy+1)) YN YO)) else (QS.l1 qaU a1 a2 l0 (l0.length:Int) (wrap64 (Yy+1)) YN YO))=some (r1,r2,r3):=by rw [if_neg (show ¬ (false=true) by decide)] at H;exact H
             clear H;have H:=H1;clear H1
             by_cases c63:a1≤((Ya l0 Yy).f1.f1)
             ·
              rw [if_pos c63] at H;have c63b0:decide (a1≤((Ya l0 Yy).f1.f1))=true:=decide_eq_true c63;clear c63
              by_cases c64:((Ya l0 Yy).f1.f0)≤a2
              ·
               rw [if_pos c64] at H;have c64b0:decide (((Ya l0 Yy).f1.f0)≤a2)=true:=decide_eq_true c64;clear c64;have H':=Q1.mk H;clear H;have qsY:=Gu.out;have qtd:=Jd.out;have qCs:=Gv.out;have qC3:=Je.out;have quN:wc.cell? ⟨Ju,0,none⟩=some (.int .i64 ((Ya l0 Yy).f0)):=(Q8 Zl.out 0).trans rfl;have quO:wc.cell? ⟨Ju,1,none⟩=some (.int .i64 ((Ya l0 Yy).f1.f0)):=(Q8 Zl.out 1).trans rfl;have quP:wc.cell? ⟨Ju,2,none⟩=some (.int .i64 ((Ya l0 Yy).f1.f1)):=(Q8 Zl.out 2).trans rfl;have qwO:=Q9 Zl.out 0;have qwP:=Q9 Zl.out 1;have qwQ:=Q9 Zl.out 2;have qCt:=Un.out;have qC4:=G1.out;have quQ:wc.cell? ⟨GI,0,none⟩=some (.int .i64 YN):=(Q8 Jf.out 0).trans rfl;have quR:wc.cell? ⟨GI,1,none⟩=some (.int .i64 YO):=(Q8 Jf.out 1).trans rfl;have qwR:=Q9 Jf.out 0;have qwS:=Q9 Jf.out 1
               go_wp2
               go_roundg qaU
               case measure=>have:=HK1.out;have:=Uc.out;have:=HK3.out;have:=qaT.out;omega
               case rel=>exact ⟨(wrap64 (Yy+1)),(YN),(wrap64 (YO+((Ya l0 Yy).f0))),(by first|rfl|(simp;done)|(simp [*];done)),H',⟨by have:=HK1.out;have:=Uc.out;have:=HK3.out;have:=qaT.out;omega⟩,⟨by (with_reducible repeat (first|refine Q4 ?_ _|refine Q6 ?_|refine Q3 ?_ _));refine Qm ?_ G1.out _;(with_reducible repeat (first|refine Q4 ?_ _|refine Q6 ?_|refine Q3 ?_ _));exact Z6.out⟩,⟨by (with_reducible repeat (first|refine Q4 ?_ _|refine Q6 ?_|refine Q3 ?_ _));refine Qv (cs:=#[.int .i64 YN,.int .i64 YO]) ?_ 1 _ rfl;(with_reducible repeat (first|refine Q4 ?_ _|refine Q6 ?_|refine Q3 ?_ _));exact Jf.out⟩,⟨by repeat (first|(with_reducible first|exact HB.out|apply Q2|apply Q0|apply Q5|refine Q7 ?_ Jp.out|refine Q7 ?_ Uj.out|refine Q7 ?_ qaA.out)|exact HB.out)⟩⟩
              rw [if_neg c64] at H;have c64b0:decide (((Ya l0 Yy).f1.f0)≤a2)=false:=decide_eq_false c64;clear c64;have H':=Q1.mk H;clear H;have qsZ:=Gu.out;have qte:=Jd.out;have qs0:=Gv.out;have qtf:=Je.out;have quS:wc.cell? ⟨Ju,0,none⟩=some (.int .i64 ((Ya l0 Yy).f0)):=(Q8 Zl.out 0).trans rfl;have quT:wc.cell? ⟨Ju,1,none⟩=some (.int .i64 ((Ya l0 Yy).f1.f0)):=(Q8 Zl.out 1).trans rfl;have quU:wc.cell? ⟨Ju,2,none⟩=some (.int .i64 ((Ya l0 Yy).f1.f1)):=(Q8 Zl.out 2).trans rfl;have qwT:=Q9 Zl.out 0;have qwU:=Q9 Zl.out 1;have qwV:=Q9 Zl.out 2
              go_wp2
              go_roundg qaU
              case measure=>have:=HK1.out;have:=Uc.out;have:=HK3.out;have:=qaT.out;omega
              case rel=>exact ⟨(wrap64 (Yy+1)),(YN),(YO),(by first|rfl|(simp;done)|(simp [*];done)),H',⟨by have:=HK1.out;have:=Uc.out;have:=HK3.out;have:=qaT.out;omega⟩,⟨by (with_reducible repeat (first|refine Q4 ?_ _|refine Q6 ?_|refine Q3 ?_ _));exact Z6.out⟩,⟨by (with_reducible repeat (first|refine Q4 ?_ _|refine Q6 ?_|refine Q3 ?_ _));exact Jf.out⟩,⟨by repeat (first|(with_reducible first|exact HB.out|apply Q2|apply Q0|apply Q5|refine Q7 ?_ Jp.out|refine Q7 ?_ Uj.out|refine Q7 ?_ qaA.out)|exact HB.out)⟩⟩
             rw [if_neg c63] at H;have c63b0:decide (a1≤((Ya l0 Yy).f1.f1))=false:=decide_eq_false c63;clear c63;have H':=Q1.mk H;clear H;have qCw:=Gu.out;have qC7:=Jd.out;have qCx:=Gv.out;have qC8:=Je.out;have qmk:wc.cell? ⟨Ju,0,none⟩=some (.int .i64 ((Ya l0 Yy).f0)):=(Q8 Zl.out 0).trans rfl;have qml:wc.cell? ⟨Ju,1,none⟩=some (.int .i64 ((Ya l0 Yy).f1.f0)):=(Q8 Zl.out 1).trans rfl;have qmm:wc.cell? ⟨Ju,2,none⟩=some (.int .i64 ((Ya l0 Yy).f1.f1)):=(Q8 Zl.out 2).trans rfl;have qmW:=Q9 Zl.out 0;have qmX:=Q9 Zl.out 1;have qmY:=Q9 Zl.out 2
             go_wp2
             go_roundg qaU
             case measure=>have:=HK1.out;have:=Uc.out;have:=HK3.out;have:=qaT.out;omega
             case rel=>exact ⟨(wrap64 (Yy+1)),(YN),(YO),(by first|rfl|(simp;done)|(simp [*];done)),H',⟨by have:=HK1.out;have:=Uc.out;have:=HK3.out;have:=qaT.out;omega⟩,⟨by (with_reducible repeat (first|refine Q4 ?_ _|refine Q6 ?_|refine Q3 ?_ _));exact Z6.out⟩,⟨by (with_reducible repeat (first|refine Q4 ?_ _|refine Q6 ?_|refine Q3 ?_ _));exact Jf.out⟩,⟨by repeat (first|(with_reducible first|exact HB.out|apply Q2|apply Q0|apply Q5|refine Q7 ?_ Jp.out|refine Q7 ?_ Uj.out|refine Q7 ?_ qaA.out)|exact HB.out)⟩⟩
          rw [if_neg c32] at H
          exact absurd H (by simp)
         rw [if_neg c31] at H
         exact absurd H (by simp)
        rw [if_neg c30] at H;have c30b0:decide (Yy<(l0.length:Int))=false:=decide_eq_false c30;clear c30;simp only [Option.some.injEq,Prod.mk.injEq] at H;obtain ⟨rfl,rfl,rfl⟩:=H;have qCy:=Un.out;have qC9:=G1.out;have qmn:wr.cell? ⟨GI,0,none⟩=some (.int .i64 YN):=(Q8 Jf.out 0).trans rfl;have qu9:wr.cell? ⟨GI,1,none⟩=some (.int .i64 YO):=(Q8 Jf.out 1).trans rfl;have qmZ:=Q9 Jf.out 0;have qxa:=Q9 Jf.out 1;have qva:wr.cell? ⟨ZY,0,none⟩=some (.int .i64 0):=(Q8 Z6.out 0).trans rfl;have qvb:wr.cell? ⟨ZY,1,none⟩=some (.int .i64 0):=(Q8 Z6.out 1).trans rfl;have qxb:=Q9 Z6.out 0;have qxc:=Q9 Z6.out 1
        go_wp2
        refine bodyPost_ret (WZ rfl _ _ ZY 25 #[.int .i64 YN,.int .i64 YO] (0,0) _ rfl (by (with_reducible repeat (first|refine Q4 ?_ _|refine Q6 ?_|refine Q3 ?_ _));refine Qv (cs:=#[.int .i64 YN,.int .i64 0]) ?_ 1 _ rfl;(with_reducible repeat (first|refine Q4 ?_ _|refine Q6 ?_|refine Q3 ?_ _));refine Qv (cs:=#[.int .i64 0,.int .i64 0]) ?_ 0 _ rfl;(with_reducible repeat (first|refine Q4 ?_ _|refine Q6 ?_|refine Q3 ?_ _));exact Z6.out) Try.underlying25 rfl (by kernel_rfl)) rfl ?_
        exact ⟨by first|rfl|(simp [Qp,Qq]<;>rfl)|(simp [*,Qp,Qq]<;>rfl),by repeat (first|(with_reducible first|exact HB.out|apply Q2|apply Q0|apply Q5|refine Q7 ?_ Jp.out|refine Q7 ?_ Uj.out)|exact HB.out)⟩
   replace c22:=Bool.eq_false_iff.mpr c22
   subst c22
   have H1:(some (0,0,90))=some (r1,r2,r3):=by rw [if_neg (show ¬ (false=true) by decide)] at H;exact H
   clear H
   have H:=H1
   clear H1
   simp only [Option.some.injEq,Prod.mk.injEq] at H
   obtain ⟨rfl,rfl,rfl⟩:=H
   have qvc:wr.cell? ⟨ZY,0,none⟩=some (.int .i64 0):=(Q8 Z6.out 0).trans rfl
   have qvd:wr.cell? ⟨ZY,1,none⟩=some (.int .i64 0):=(Q8 Z6.out 1).trans rfl
   have qxd:=Q9 Z6.out 0
   have qxe:=Q9 Z6.out 1
   go_wp2
   refine bodyPost_ret (WZ rfl _ _ ZY 25 #[.int .i64 0,.int .i64 0] (0,0) _ rfl (by (with_reducible repeat (first|refine Q4 ?_ _|refine Q6 ?_|refine Q3 ?_ _));refine Qv (cs:=#[.int .i64 0,.int .i64 0]) ?_ 1 _ rfl;(with_reducible repeat (first|refine Q4 ?_ _|refine Q6 ?_|refine Q3 ?_ _));refine Qv (cs:=#[.int .i64 0,.int .i64 0]) ?_ 0 _ rfl;(with_reducible repeat (first|refine Q4 ?_ _|refine Q6 ?_|refine Q3 ?_ _));exact Z6.out) Try.underlying25 rfl (by kernel_rfl)) rfl ?_
   exact ⟨by first|rfl|(simp [Qp,Qq]<;>rfl)|(simp [*,Qp,Qq]<;>rfl),by repeat (first|(with_reducible first|exact HB.out|apply Q2|apply Q0|apply Q5|refine Q7 ?_ Jp.out)|exact HB.out)⟩
end
section
attribute [local go_sem] YH YJ Z0 Z1 Yr Ys YI YK
mutual
def Qn.j0:Nat→Int→Bool→List Int→List Int→List Int→Int→Int→Option (Bool)
 | 0,_,_,_,_,_,_,_=>none
 | k+1,x3,x4,KX,KY,KZ,U8,U9=>Qn.l0 k x3 x4 0 KX KY KZ U8 U9
def Qn.l0:Nat→Int→Bool→Int→List Int→List Int→List Int→Int→Int→Option (Bool)
 | 0,_,_,_,_,_,_,_,_=>none
 | k+1,x3,x4,x5,KX,KY,KZ,U8,U9=>if x4=true then (Qn.j2 k x3 x4 x5 (decide (x5<x3)) KX KY KZ U8 U9) else (Qn.j2 k x3 x4 x5 false KX KY KZ U8 U9)
def Qn.j2:Nat→Int→Bool→Int→Bool→List Int→List Int→List Int→Int→Int→Option (Bool)
 | 0,_,_,_,_,_,_,_,_,_=>none
 | k+1,x3,x4,x5,x47,KX,KY,KZ,U8,U9=>if x47=true then (if 0≤x5 then (if x5<(KX.length:Int) then ((Qj.f (rd KX x5) 0 100000).bind fun qjr=>(if qjr=true then (if x5<(KY.length:Int) then ((Qj.f (rd KY x5) 0 1000).bind fun qcL=>(if qcL=true then (if x5<(KZ.length:Int) then ((Qj.f (rd KZ x5) 0 100).bind fun X2=>(Qn.l0 k x3 X2 (wrap64 (x5+1)) KX KY KZ U8 U9)) else (none)) else (Qn.l0 k x3 false (wrap64 (x5+1)) KX KY KZ U8 U9))) else (none)) else (Qn.l0 k x3 false (wrap64 (x5+1)) KX KY KZ U8 U9))) else (none)) else (none)) else (some x4)
end
def Qn.f (k:Nat) (Qa:List Int) (Qk:List Int) (Qd:List Int) (Y8:Int) (Y7:Int):Option (Bool):=(Qj.f (Qa.length:Int) 1 6).bind fun t145=>(if t145=true then (if (Qk.length:Int)=(Qa.length:Int) then (if (Qd.length:Int)=(Qa.length:Int) then ((Qj.f Y8 0 100000000).bind fun t146=>(if t146=true then ((Qj.f Y7 0 (wrap64 ((Qa.length:Int)-1))).bind fun X1=>(Qn.j0 k (Qa.length:Int) X1 Qa Qk Qd Y8 Y7)) else (Qn.j0 k (Qa.length:Int) false Qa Qk Qd Y8 Y7))) else (Qn.j0 k (Qa.length:Int) false Qa Qk Qd Y8 Y7)) else (Qn.j0 k (Qa.length:Int) false Qa Qk Qd Y8 Y7)) else (Qn.j0 k (Qa.length:Int) false Qa Qk Qd Y8 Y7))
set_option maxHeartbeats 8000000 in
set_option maxRecDepth 100000 in
theorem Qn.calls (k:Nat) (Y3:Option Addr) (QH:Nat) (Qa:List Int) (Y0:Option Addr) (QJ:Nat) (Qk:List Int) (Y5:Option Addr) (QL:Nat) (Qd:List Int) (Y8:Int) (Y7:Int) (r:Bool) (w:World) (Gp:Kd.C (Kd.int .i64) w Y3 Qa.length Qa) (Gz:Qa.length≤QH) (Gq:Kd.C (Kd.int .i64) w Y0 Qk.length Qk) (GA:Qk.length≤QJ) (Gr:Kd.C (Kd.int .i64) w Y5 Qd.length Qd) (GC:Qd.length≤QL) (h:Qn.f k Qa Qk Qd Y8 Y7=some r) :
  Calls Try.prog 76 #[.agg #[.slice Y3 Qa.length QH,.slice Y0 Qk.length QJ,.slice Y5 Qd.length QL,.int .i64 Y8,.int .i64 Y7]] w fun e w'=>e = .returned (.bool r)∧Below w.heap.size w w':=by
 have qkK:=Try.underlying111
 have Jq:=Q1.mk Gp
 have JI:=Q1.mk Gz
 clear Gp Gz
 have JA:=Q1.mk Gq
 have JJ:=Q1.mk GA
 clear Gq GA
 have JC:=Q1.mk Gr
 have JK:=Q1.mk GC
 clear Gr GC
 have HB:=Q1.mk (Below.refl w.heap.size w)
 have H:((Qj.f (Qa.length:Int) 1 6).bind fun t145=>(if t145=true then (if (Qk.length:Int)=(Qa.length:Int) then (if (Qd.length:Int)=(Qa.length:Int) then ((Qj.f Y8 0 100000000).bind fun t146=>(if t146=true then ((Qj.f Y7 0 (wrap64 ((Qa.length:Int)-1))).bind fun X1=>(Qn.j0 k (Qa.length:Int) X1 Qa Qk Qd Y8 Y7)) else (Qn.j0 k (Qa.length:Int) false Qa Qk Qd Y8 Y7))) else (Qn.j0 k (Qa.length:Int) false Qa Qk Qd Y8 Y7)) else (Qn.j0 k (Qa.length:Int) false Qa Qk Qd Y8 Y7)) else (Qn.j0 k (Qa.length:Int) false Qa Qk Qd Y8 Y7)))=some r:=h
 clear h
 have HC2:=Q1.mk H
 clear H
 go_enter Try.func76,Try.ntmps76
 go_upto_region 2 with (first|((with_reducible refine QO (N:=1) rfl ?_);(try (refine Gn (by rfl) ?_;dsimp only));refine Yg ?hg (N:=1) ?hd (cs:=#[.slice Y3 Qa.length QH,.slice Y0 Qk.length QJ,.slice Y5 Qd.length QL,.int .i64 Y8,.int .i64 Y7]) (t:=111) ?hr ?_;(case hd=>rfl);(case hg=>rfl);(case hr=>first|(go_simp;done)|(go_simp;rfl));intro ZP hg w3 hbox hb;have n0_:=Q1.mk (Qh (by repeat (first|(with_reducible first|exact HB.out|apply Q2|apply Q0|apply Q5)|exact HB.out)) hb);have n1_:=Q1.mk (hbox);have n2_:=Q1.mk ((by rw [hg];exact (Qe (by repeat (first|(with_reducible first|exact HB.out|apply Q2|apply Q0|apply Q5)|exact HB.out))):w.heap.size≤ZP));have n3_:=n2_;clear HB;have HB:=n0_;have Yo:=n1_;have qBm:=n2_;have UT:=n3_;clear n0_ n1_ n2_ n3_ hb hbox hg;have GD:w3.cell? ⟨ZP,0,none⟩=some (.slice Y3 Qa.length QH):=(Q8 Yo.out 0).trans rfl;have GE:w3.cell? ⟨ZP,1,none⟩=some (.slice Y0 Qk.length QJ):=(Q8 Yo.out 1).trans rfl;have K0:w3.cell? ⟨ZP,2,none⟩=some (.slice Y5 Qd.length QL):=(Q8 Yo.out 2).trans rfl;have qgG:w3.cell? ⟨ZP,3,none⟩=some (.int .i64 Y8):=(Q8 Yo.out 3).trans rfl;have qgH:w3.cell? ⟨ZP,4,none⟩=some (.int .i64 Y7):=(Q8 Yo.out 4).trans rfl;have GF:=Q9 Yo.out 0;have GG:=Q9 Yo.out 1;have Kb:=Q9 Yo.out 2;have qgI:=Q9 Yo.out 3;have qgJ:=Q9 Yo.out 4))
 (try simp only [Act.put,List.setIfInBounds_toArray,List.set_cons_zero,List.set_cons_succ])
 go_cut [4] (fun v4 wc => ∃ (kq:Nat) (qai:Bool),v4 = .bool qai∧Q1 (Qn.j0 kq (Qa.length:Int) qai Qa Qk Qd Y8 Y7=some r)∧Q1 (kq≤k)∧Q1 (wc.heap[ZP]? = some (.cells #[(.slice Y3 Qa.length QH),(.slice Y0 Qk.length QJ),(.slice Y5 Qd.length QL),.int .i64 Y8,.int .i64 Y7] 111 (0,0)))∧Q1 (Below w.heap.size w wc))
 case first =>
  have H:=HC2.out
  clear HC2
  replace H:=Option.bind_eq_some_iff.mp H
  obtain ⟨t145,A50,H⟩:=H
  replace H:(if t145=true then (if (Qk.length:Int)=(Qa.length:Int) then (if (Qd.length:Int)=(Qa.length:Int) then ((Qj.f Y8 0 100000000).bind fun t146=>(if t146=true then ((Qj.f Y7 0 (wrap64 ((Qa.length:Int)-1))).bind fun X1=>(Qn.j0 k (Qa.length:Int) X1 Qa Qk Qd Y8 Y7)) else (Qn.j0 k (Qa.length:Int) false Qa Qk Qd Y8 Y7))) else (Qn.j0 k (Qa.length:Int) false Qa Qk Qd Y8 Y7)) else (Qn.j0 k (Qa.length:Int) false Qa Qk Qd Y8 Y7)) else (Qn.j0 k (Qa.length:Int) false Qa Qk Qd Y8 Y7))=some r:=H
  have A5:=Q1.mk A50
  clear A50
  by_cases c6:t145=true
  ·
   subst c6
   have H1:(if (Qk.length:Int)=(Qa.length:Int) then (if (Qd.length:Int)=(Qa.length:Int) then ((Qj.f Y8 0 100000000).bind fun t146=>(if t146=true then ((Qj.f Y7 0 (wrap64 ((Qa.length:Int)-1))).bind fun X1=>(Qn.j0 k (Qa.length:Int) X1 Qa Qk Qd Y8 Y7)) else (Qn.j0 k (Qa.length:Int) false Qa Qk Qd Y8 Y7))) else (Qn.j0 k (Qa.length:Int) false Qa Qk Qd Y8 Y7)) else (Qn.j0 k (Qa.length:Int) false Qa Qk Qd Y8 Y7))=some r:=by rw [if_pos rfl] at H;exact H
   clear H
   have H:=H1
   clear H1
   by_cases c7:(Qk.length:Int)=(Qa.length:Int)
   ·
    rw [if_pos c7] at H;have c7b0:((Qk.length:Int)==(Qa.length:Int))=true:=beq_iff_eq.mpr c7;have c7b1:((Qk.length:Int) != (Qa.length:Int))=false:=bne_eq_false_iff_eq.mpr c7
    have c7b2:(Qk.length==Qa.length)=true:=by first|simpa using c7|(simp at c7 ⊢;omega)
    clear c7
    (first|rw [c7b0]|(simp only [Yh,Yk];rw [c7b0])|skip)
    by_cases c8:(Qd.length:Int)=(Qa.length:Int)
    ·
     rw [if_pos c8] at H;have c8b0:((Qd.length:Int)==(Qa.length:Int))=true:=beq_iff_eq.mpr c8;have c8b1:((Qd.length:Int) != (Qa.length:Int))=false:=bne_eq_false_iff_eq.mpr c8
     have c8b2:(Qd.length==Qa.length)=true:=by first|simpa using c8|(simp at c8 ⊢;omega)
     clear c8;replace H:=Option.bind_eq_some_iff.mp H;obtain ⟨t146,A90,H⟩:=H;replace H:(if t146=true then ((Qj.f Y7 0 (wrap64 ((Qa.length:Int)-1))).bind fun X1=>(Qn.j0 k (Qa.length:Int) X1 Qa Qk Qd Y8 Y7)) else (Qn.j0 k (Qa.length:Int) false Qa Qk Qd Y8 Y7))=some r:=H;have A9:=Q1.mk A90;clear A90
     by_cases c10:t146=true
     ·
      subst c10
      have H1:((Qj.f Y7 0 (wrap64 ((Qa.length:Int)-1))).bind fun X1=>(Qn.j0 k (Qa.length:Int) X1 Qa Qk Qd Y8 Y7))=some r:=by rw [if_pos rfl] at H;exact H
      clear H;have H:=H1;clear H1;replace H:=Option.bind_eq_some_iff.mp H;obtain ⟨X1,qeL,H⟩:=H;replace H:(Qn.j0 k (Qa.length:Int) X1 Qa Qk Qd Y8 Y7)=some r:=H;have A11:=Q1.mk qeL;clear qeL;have H':=Q1.mk H;clear H
      go_wp2_with (first|((with_reducible refine Qs (f:=65) rfl ?_);refine Yj (some 11) rfl rfl Try.func65 (by kernel_rfl) rfl #[.int .i64 (Qa.length:Int),.int .i64 1,.int .i64 6] rfl (by (try simp only [List.map_toArray,List.map_cons,List.map_nil]);first|done|rfl|(simp only [List.length_drop,List.length_take];rfl)) ?_;(with_reducible refine (Qj.calls (Qa.length:Int) 1 6 true _ A5.out).mono ?_);rintro e w' ⟨rfl,⟨nd,rfl⟩⟩;refine ⟨_,rfl,?_⟩;have Xl:w3.cell? ⟨ZP,0,none⟩=some (.slice Y3 Qa.length QH):=(Q8 Yo.out 0).trans rfl;have Xm:w3.cell? ⟨ZP,1,none⟩=some (.slice Y0 Qk.length QJ):=(Q8 Yo.out 1).trans rfl;have qa6:w3.cell? ⟨ZP,2,none⟩=some (.slice Y5 Qd.length QL):=(Q8 Yo.out 2).trans rfl;have qdy:w3.cell? ⟨ZP,3,none⟩=some (.int .i64 Y8):=(Q8 Yo.out 3).trans rfl;have qdz:w3.cell? ⟨ZP,4,none⟩=some (.int .i64 Y7):=(Q8 Yo.out 4).trans rfl;have Xw:=Q9 Yo.out 0;have Xx:=Q9 Yo.out 1;have qbh:=Q9 Yo.out 2;have qdK:=Q9 Yo.out 3;have qdL:=Q9 Yo.out 4)|(go_at_call 65;(with_reducible refine (Qj.calls Y8 0 100000000 true _ A9.out).mono ?_);rintro e w' ⟨rfl,⟨nd,rfl⟩⟩)|(go_at_call 65;(with_reducible refine (Qj.calls Y7 0 (wrap64 ((Qa.length:Int)-1)) X1 _ A11.out).mono ?_);rintro e w' ⟨rfl,⟨nd,rfl⟩⟩))
      go_meet
      case rel=>exact ⟨_,(X1),(by first|rfl|(simp;done)|(simp [*];done)),H',⟨by first|omega|exact Nat.le_refl _⟩,⟨by (with_reducible repeat (first|refine Q4 ?_ _|refine Q6 ?_|refine Q3 ?_ _));exact Yo.out⟩,⟨by repeat (first|(with_reducible first|exact HB.out|apply Q2|apply Q0|apply Q5|refine Q7 ?_ UT.out)|exact HB.out)⟩⟩
     replace c10:=Bool.eq_false_iff.mpr c10;subst c10
     have H1:(Qn.j0 k (Qa.length:Int) false Qa Qk Qd Y8 Y7)=some r:=by rw [if_neg (show ¬ (false=true) by decide)] at H;exact H
     clear H;have H:=H1;clear H1;have H':=Q1.mk H;clear H
     go_wp2_with (first|((with_reducible refine Qs (f:=65) rfl ?_);refine Yj (some 11) rfl rfl Try.func65 (by kernel_rfl) rfl #[.int .i64 (Qa.length:Int),.int .i64 1,.int .i64 6] rfl (by (try simp only [List.map_toArray,List.map_cons,List.map_nil]);first|done|rfl|(simp only [List.length_drop,List.length_take];rfl)) ?_;(with_reducible refine (Qj.calls (Qa.length:Int) 1 6 true _ A5.out).mono ?_);rintro e w' ⟨rfl,⟨nd,rfl⟩⟩;refine ⟨_,rfl,?_⟩;have OK:w3.cell? ⟨ZP,0,none⟩=some (.slice Y3 Qa.length QH):=(Q8 Yo.out 0).trans rfl;have OL:w3.cell? ⟨ZP,1,none⟩=some (.slice Y0 Qk.length QJ):=(Q8 Yo.out 1).trans rfl;have OM:w3.cell? ⟨ZP,2,none⟩=some (.slice Y5 Qd.length QL):=(Q8 Yo.out 2).trans rfl;have qdA:w3.cell? ⟨ZP,3,none⟩=some (.int .i64 Y8):=(Q8 Yo.out 3).trans rfl;have qdB:w3.cell? ⟨ZP,4,none⟩=some (.int .i64 Y7):=(Q8 Yo.out 4).trans rfl;have OU:=Q9 Yo.out 0;have OV:=Q9 Yo.out 1;have OW:=Q9 Yo.out 2;have qdM:=Q9 Yo.out 3;have qdN:=Q9 Yo.out 4)|(go_at_call 65;(with_reducible refine (Qj.calls Y8 0 100000000 false _ A9.out).mono ?_);rintro e w' ⟨rfl,⟨nd,rfl⟩⟩))
     go_meet
     case rel=>exact ⟨_,(false),(by first|rfl|(simp;done)|(simp [*];done)),H',⟨by first|omega|exact Nat.le_refl _⟩,⟨by (with_reducible repeat (first|refine Q4 ?_ _|refine Q6 ?_|refine Q3 ?_ _));exact Yo.out⟩,⟨by repeat (first|(with_reducible first|exact HB.out|apply Q2|apply Q0|apply Q5|refine Q7 ?_ UT.out)|exact HB.out)⟩⟩
    rw [if_neg c8] at H;have c8b0:((Qd.length:Int)==(Qa.length:Int))=false:=beq_eq_false_iff_ne.mpr c8;have c8b1:((Qd.length:Int) != (Qa.length:Int))=true:=bne_iff_ne.mpr c8
    have c8b2:(Qd.length==Qa.length)=false:=by first|simpa using c8|(simp at c8 ⊢;omega)
    have H':=Q1.mk H;clear H
    go_wp2_with (first|((with_reducible refine Qs (f:=65) rfl ?_);refine Yj (some 11) rfl rfl Try.func65 (by kernel_rfl) rfl #[.int .i64 (Qa.length:Int),.int .i64 1,.int .i64 6] rfl (by (try simp only [List.map_toArray,List.map_cons,List.map_nil]);first|done|rfl|(simp only [List.length_drop,List.length_take];rfl)) ?_;(with_reducible refine (Qj.calls (Qa.length:Int) 1 6 true _ A5.out).mono ?_);rintro e w' ⟨rfl,⟨nd,rfl⟩⟩;refine ⟨_,rfl,?_⟩;have O7:w3.cell? ⟨ZP,0,none⟩=some (.slice Y3 Qa.length QH):=(Q8 Yo.out 0).trans rfl;have O8:w3.cell? ⟨ZP,1,none⟩=some (.slice Y0 Qk.length QJ):=(Q8 Yo.out 1).trans rfl;have ON:w3.cell? ⟨ZP,2,none⟩=some (.slice Y5 Qd.length QL):=(Q8 Yo.out 2).trans rfl;have qdC:w3.cell? ⟨ZP,3,none⟩=some (.int .i64 Y8):=(Q8 Yo.out 3).trans rfl;have qdD:w3.cell? ⟨ZP,4,none⟩=some (.int .i64 Y7):=(Q8 Yo.out 4).trans rfl;have Oc:=Q9 Yo.out 0;have Od:=Q9 Yo.out 1;have OX:=Q9 Yo.out 2;have qdO:=Q9 Yo.out 3;have qdP:=Q9 Yo.out 4))
    go_meet
    case rel=>exact ⟨_,(false),(by first|rfl|(simp;done)|(simp [*];done)),H',⟨by first|omega|exact Nat.le_refl _⟩,⟨by (with_reducible repeat (first|refine Q4 ?_ _|refine Q6 ?_|refine Q3 ?_ _));exact Yo.out⟩,⟨by repeat (first|(with_reducible first|exact HB.out|apply Q2|apply Q0|apply Q5|refine Q7 ?_ UT.out)|exact HB.out)⟩⟩
   rw [if_neg c7] at H
   have c7b0:((Qk.length:Int)==(Qa.length:Int))=false:=beq_eq_false_iff_ne.mpr c7
   have c7b1:((Qk.length:Int) != (Qa.length:Int))=true:=bne_iff_ne.mpr c7
   have c7b2:(Qk.length==Qa.length)=false:=by first|simpa using c7|(simp at c7 ⊢;omega)
   (first|rw [c7b0]|(simp only [Yh,Yk];rw [c7b0])|skip)
   have H':=Q1.mk H
   clear H
   go_wp2_with (first|((with_reducible refine Qs (f:=65) rfl ?_);refine Yj (some 11) rfl rfl Try.func65 (by kernel_rfl) rfl #[.int .i64 (Qa.length:Int),.int .i64 1,.int .i64 6] rfl (by (try simp only [List.map_toArray,List.map_cons,List.map_nil]);first|done|rfl|(simp only [List.length_drop,List.length_take];rfl)) ?_;(with_reducible refine (Qj.calls (Qa.length:Int) 1 6 true _ A5.out).mono ?_);rintro e w' ⟨rfl,⟨nd,rfl⟩⟩;refine ⟨_,rfl,?_⟩;have KR:w3.cell? ⟨ZP,0,none⟩=some (.slice Y3 Qa.length QH):=(Q8 Yo.out 0).trans rfl;have KS:w3.cell? ⟨ZP,1,none⟩=some (.slice Y0 Qk.length QJ):=(Q8 Yo.out 1).trans rfl;have OO:w3.cell? ⟨ZP,2,none⟩=some (.slice Y5 Qd.length QL):=(Q8 Yo.out 2).trans rfl;have OP:w3.cell? ⟨ZP,3,none⟩=some (.int .i64 Y8):=(Q8 Yo.out 3).trans rfl;have OQ:w3.cell? ⟨ZP,4,none⟩=some (.int .i64 Y7):=(Q8 Yo.out 4).trans rfl;have KT:=Q9 Yo.out 0;have KU:=Q9 Yo.out 1;have OY:=Q9 Yo.out 2;have OZ:=Q9 Yo.out 3;have U0:=Q9 Yo.out 4))
   go_meet
   case rel=>exact ⟨_,(false),(by first|rfl|(simp;done)|(simp [*];done)),H',⟨by first|omega|exact Nat.le_refl _⟩,⟨by (with_reducible repeat (first|refine Q4 ?_ _|refine Q6 ?_|refine Q3 ?_ _));exact Yo.out⟩,⟨by repeat (first|(with_reducible first|exact HB.out|apply Q2|apply Q0|apply Q5|refine Q7 ?_ UT.out)|exact HB.out)⟩⟩
  replace c6:=Bool.eq_false_iff.mpr c6
  subst c6
  have H1:(Qn.j0 k (Qa.length:Int) false Qa Qk Qd Y8 Y7)=some r:=by rw [if_neg (show ¬ (false=true) by decide)] at H;exact H
  clear H
  have H:=H1
  clear H1
  have H':=Q1.mk H
  clear H
  go_wp2_with (first|((with_reducible refine Qs (f:=65) rfl ?_);refine Yj (some 11) rfl rfl Try.func65 (by kernel_rfl) rfl #[.int .i64 (Qa.length:Int),.int .i64 1,.int .i64 6] rfl (by (try simp only [List.map_toArray,List.map_cons,List.map_nil]);first|done|rfl|(simp only [List.length_drop,List.length_take];rfl)) ?_;(with_reducible refine (Qj.calls (Qa.length:Int) 1 6 false _ A5.out).mono ?_);rintro e w' ⟨rfl,⟨nd,rfl⟩⟩;refine ⟨_,rfl,?_⟩))
  go_meet
  case rel=>exact ⟨_,(false),(by first|rfl|(simp;done)|(simp [*];done)),H',⟨by first|omega|exact Nat.le_refl _⟩,⟨by (with_reducible repeat (first|refine Q4 ?_ _|refine Q6 ?_|refine Q3 ?_ _));exact Yo.out⟩,⟨by repeat (first|(with_reducible first|exact HB.out|apply Q2|apply Q0|apply Q5|refine Q7 ?_ UT.out)|exact HB.out)⟩⟩
 case rest =>
  clear HC2
  try clear c1
  try clear p2
  try clear c6
  try clear p6
  try clear c7
  try clear c7b0
  try clear c7b1
  try clear c7b2
  try clear c8
  try clear c8b0
  try clear c8b1
  try clear c8b2
  try clear c10
  try clear Xl
  try clear Xm
  try clear qa6
  try clear qdy
  try clear qdz
  try clear OK
  try clear OL
  try clear OM
  try clear qdA
  try clear qdB
  try clear O7
  try clear O8
  try clear ON
  try clear qdC
  try clear qdD
  try clear KR
  try clear KS
  try clear OO
  try clear OP
  try clear OQ
  try clear GD
  try clear GE
  try clear K0
  try clear qgG
  try clear qgH
  try clear Xw
  try clear Xx
  try clear qbh
  try clear qdK
  try clear qdL
  try clear OU
  try clear OV
  try clear OW
  try clear qdM
  try clear qdN
  try clear Oc
  try clear Od
  try clear OX
  try clear qdO
  try clear qdP
  try clear KT
  try clear KU
  try clear OY
  try clear OZ
  try clear U0
  try clear GF
  try clear GG
  try clear Kb
  try clear qgI
  try clear qgJ
  obtain ⟨kq,qai,rfl,HA,HJ1,Yo,HB⟩:=hcut
  cases kq with
  | zero=>exact absurd HA.out (by simp [Qn.j0])
  | succ kj1 =>
   have H:=HA.out
   clear HA
   simp only [Qn.j0] at H
   have H':=Q1.mk H
   clear H
   go_wp2
   go_loopg [4,5] kj1 (fun kq v4 v5 w' => ∃ (OA:Bool) (Yd:Int),v4 = .bool OA∧v5 = .int .i64 Yd∧Q1 (Qn.l0 kq (Qa.length:Int) OA Yd Qa Qk Qd Y8 Y7=some r)∧Q1 (kq≤kj1)∧Q1 (w'.heap[ZP]? = some (.cells #[(.slice Y3 Qa.length QH),(.slice Y0 Qk.length QJ),(.slice Y5 Qd.length QL),.int .i64 Y8,.int .i64 Y7] 111 (0,0)))∧Q1 (Below w.heap.size w w'))
   case atStart=>exact ⟨(qai),(0),(by first|rfl|(simp;done)|(simp [*];done)),(by first|rfl|(simp;done)|(simp [*];done)),H',⟨Nat.le_refl _⟩,⟨by (with_reducible repeat (first|refine Q4 ?_ _|refine Q6 ?_|refine Q3 ?_ _));exact Yo.out⟩,⟨by repeat (first|(with_reducible first|exact HB.out|apply Q2|apply Q0|apply Q5|refine Q7 ?_ UT.out)|exact HB.out)⟩⟩
   case round =>
    clear H';(try clear c1);(try clear p2);(try clear c6);(try clear p6);(try clear c7);(try clear c7b0);(try clear c7b1);(try clear c7b2);(try clear c8);(try clear c8b0);(try clear c8b1);(try clear c8b2);(try clear c10);(try clear Xl);(try clear Xm);(try clear qa6);(try clear qdy);(try clear qdz);(try clear OK);(try clear OL);(try clear OM);(try clear qdA);(try clear qdB);(try clear O7);(try clear O8);(try clear ON);(try clear qdC);(try clear qdD);(try clear KR);(try clear KS);(try clear OO);(try clear OP);(try clear OQ);(try clear GD);(try clear GE);(try clear K0);(try clear qgG);(try clear qgH);(try clear Xw);(try clear Xx);(try clear qbh);(try clear qdK);(try clear qdL);(try clear OU);(try clear OV);(try clear OW);(try clear qdM);(try clear qdN);(try clear Oc);(try clear Od);(try clear OX);(try clear qdO);(try clear qdP);(try clear KT);(try clear KU);(try clear OY);(try clear OZ);(try clear U0);(try clear GF);(try clear GG);(try clear Kb);(try clear qgI);(try clear qgJ);(try clear p2);(try clear p6);obtain ⟨OA,Yd,rfl,rfl,HA,HK2,Yo,HB⟩:=hrel
    cases gk with
    | zero=>exact absurd HA.out (by simp [Qn.l0])
    | succ k2 =>
     have H:=HA.out;clear HA;simp only [Qn.l0] at H;have qoW:=Q1.mk H;clear H
     go_upto_region 4 with (fail)
     go_cut [47] (fun v47 wc => ∃ (kq:Nat) (qeF:Bool),v47 = .bool qeF∧Q1 (Qn.j2 kq (Qa.length:Int) OA Yd qeF Qa Qk Qd Y8 Y7=some r)∧Q1 (kq≤k2)∧Q1 (wc.heap[ZP]? = some (.cells #[(.slice Y3 Qa.length QH),(.slice Y0 Qk.length QJ),(.slice Y5 Qd.length QL),.int .i64 Y8,.int .i64 Y7] 111 (0,0)))∧Q1 (Below w.heap.size w wc))
     case first =>
      have H:=qoW.out;clear qoW
      by_cases c17:OA=true
      ·
       subst c17
       have H1:(Qn.j2 k2 (Qa.length:Int) true Yd (decide (Yd<(Qa.length:Int))) Qa Qk Qd Y8 Y7)=some r:=by rw [if_pos rfl] at H;exact H
       clear H;have H:=H1;clear H1;have H':=Q1.mk H;clear H
       go_wp2
       go_meet
       case rel=>exact ⟨_,(decide (Yd<(Qa.length:Int))),(by first|rfl|(simp;done)|(simp [*];done)),H',⟨by have:=HJ1.out;have:=HK2.out;first|omega|exact Nat.le_refl _⟩,⟨by (with_reducible repeat (first|refine Q4 ?_ _|refine Q6 ?_|refine Q3 ?_ _));exact Yo.out⟩,⟨by repeat (first|(with_reducible first|exact HB.out|apply Q2|apply Q0|apply Q5|refine Q7 ?_ UT.out)|exact HB.out)⟩⟩
      replace c17:=Bool.eq_false_iff.mpr c17;subst c17
      have H1:(Qn.j2 k2 (Qa.length:Int) false Yd false Qa Qk Qd Y8 Y7)=some r:=by rw [if_neg (show ¬ (false=true) by decide)] at H;exact H
      clear H;have H:=H1;clear H1;have H':=Q1.mk H;clear H
      go_wp2
      go_meet
      case rel=>exact ⟨_,(false),(by first|rfl|(simp;done)|(simp [*];done)),H',⟨by have:=HJ1.out;have:=HK2.out;first|omega|exact Nat.le_refl _⟩,⟨by (with_reducible repeat (first|refine Q4 ?_ _|refine Q6 ?_|refine Q3 ?_ _));exact Yo.out⟩,⟨by repeat (first|(with_reducible first|exact HB.out|apply Q2|apply Q0|apply Q5|refine Q7 ?_ UT.out)|exact HB.out)⟩⟩
     case rest =>
      clear qoW;(try clear c1);(try clear p2);(try clear c6);(try clear p6);(try clear c7);(try clear c7b0);(try clear c7b1);(try clear c7b2);(try clear c8);(try clear c8b0);(try clear c8b1);(try clear c8b2);(try clear c10);(try clear c17);(try clear Xl);(try clear Xm);(try clear qa6);(try clear qdy);(try clear qdz);(try clear OK);(try clear OL);(try clear OM);(try clear qdA);(try clear qdB);(try clear O7);(try clear O8);(try clear ON);(try clear qdC);(try clear qdD);(try clear KR);(try clear KS);(try clear OO);(try clear OP);(try clear OQ);(try clear GD);(try clear GE);(try clear K0);(try clear qgG);(try clear qgH);(try clear Xw);(try clear Xx);(try clear qbh);(try clear qdK);(try clear qdL);(try clear OU);(try clear OV);(try clear OW);(try clear qdM);(try clear qdN);(try clear Oc);(try clear Od);(try clear OX);(try clear qdO);(try clear qdP);(try clear KT);(try clear KU);(try clear OY);(try clear OZ);(try clear U0);(try clear GF);(try clear GG);(try clear Kb);(try clear qgI);(try clear qgJ);(try clear p2);(try clear p6);obtain ⟨kq,qeF,rfl,HA,qiT,Yo,HB⟩:=hcut
      cases kq with
      | zero=>exact absurd HA.out (by simp [Qn.j2])
      | succ W7 =>
       have H:=HA.out;clear HA;simp only [Qn.j2] at H
       by_cases c18:qeF=true
       ·
        subst c18
        have H1:(if 0≤Yd then (if Yd<(Qa.length:Int) then ((Qj.f (rd Qa Yd) 0 100000).bind fun qjr=>(if qjr=true then (if Yd<(Qk.length:Int) then ((Qj.f (rd Qk Yd) 0 1000).bind fun qcL=>(if qcL=true then (if Yd<(Qd.length:Int) then ((Qj.f (rd Qd Yd) 0 100).bind fun X2=>(Qn.l0 W7 (Qa.length:Int) X2 (wrap64 (Yd+1)) Qa Qk Qd Y8 Y7)) else (none)) else (Qn.l0 W7 (Qa.length:Int) false (wrap64 (Yd+1)) Qa Qk Qd Y8 Y7))) else (none)) else (Qn.l0 W7 (Qa.length:Int) false (wrap64 (Yd+1)) Qa Qk Qd Y8 Y7))) else (none)) else (none))=some r:=by rw [if_pos rfl] at H;exact H
        clear H;have H:=H1;clear H1
        by_cases c19:0≤Yd
        ·
         rw [if_pos c19] at H;have c19b0:decide (0≤Yd)=true:=decide_eq_true c19;clear c19
         by_cases c20:Yd<(Qa.length:Int)
         ·
          rw [if_pos c20] at H;have c20b0:decide (Yd<(Qa.length:Int))=true:=decide_eq_true c20;clear c20;replace H:=Option.bind_eq_some_iff.mp H;obtain ⟨qjr,qqk,H⟩:=H;replace H:(if qjr=true then (if Yd<(Qk.length:Int) then ((Qj.f (rd Qk Yd) 0 1000).bind fun qcL=>(if qcL=true then (if Yd<(Qd.length:Int) then ((Qj.f (rd Qd Yd) 0 100).bind fun X2=>(Qn.l0 W7 (Qa.length:Int) X2 (wrap64 (Yd+1)) Qa Qk Qd Y8 Y7)) else (none)) else (Qn.l0 W7 (Qa.length:Int) false (wrap64 (Yd+1)) Qa Qk Qd Y8 Y7))) else (none)) else (Qn.l0 W7 (Qa.length:Int) false (wrap64 (Yd+1)) Qa Qk Qd Y8 Y7))=some r:=H;have A21:=Q1.mk qqk;clear qqk
          by_cases c22:qjr=true
          ·
           subst c22
           have H1:(if Yd<(Qk.length:Int) then ((Qj.f (rd Qk Yd) 0 1000).bind fun qcL=>(if qcL=true then (if Yd<(Qd.length:Int) then ((Qj.f (rd Qd Yd) 0 100).bind fun X2=>(Qn.l0 W7 (Qa.length:Int) X2 (wrap64 (Yd+1)) Qa Qk Qd Y8 Y7)) else (none)) else (Qn.l0 W7 (Qa.length:Int) false (wrap64 (Yd+1)) Qa Qk Qd Y8 Y7))) else (none))=some r:=by rw [if_pos rfl] at H;exact H
           clear H;have H:=H1;clear H1
           by_cases c23:Yd<(Qk.length:Int)
           ·
            rw [if_pos c23] at H;have c23b0:decide (Yd<(Qk.length:Int))=true:=decide_eq_true c23;clear c23;replace H:=Option.bind_eq_some_iff.mp H;obtain ⟨qcL,qeM,H⟩:=H;replace H:(if qcL=true then (if Yd<(Qd.length:Int) then ((Qj.f (rd Qd Yd) 0 100).bind fun X2=>(Qn.l0 W7 (Qa.length:Int) X2 (wrap64 (Yd+1)) Qa Qk Qd Y8 Y7)) else (none)) else (Qn.l0 W7 (Qa.length:Int) false (wrap64 (Yd+1)) Qa Qk Qd Y8 Y7))=some r:=H;have A24:=Q1.mk qeM;clear qeM
            by_cases c25:qcL=true
            ·
             subst c25
             have H1:(if Yd<(Qd.length:Int) then ((Qj.f (rd Qd Yd) 0 100).bind fun X2=>(Qn.l0 W7 (Qa.length:Int) X2 (wrap64 (Yd+1)) Qa Qk Qd Y8 Y7)) else (none))=some r:=by rw [if_pos rfl] at H;exact H
             clear H;have H:=H1;clear H1
             by_cases c26:Yd<(Qd.length:Int)
             ·
              rw [if_pos c26] at H;have c26b0:decide (Yd<(Qd.length:Int))=true:=decide_eq_true c26;clear c26;replace H:=Option.bind_eq_some_iff.mp H;obtain ⟨X2,qqm,H⟩:=H;replace H:(Qn.l0 W7 (Qa.length:Int) X2 (wrap64 (Yd+1)) Qa Qk Qd Y8 Y7)=some r:=H;have A27:=Q1.mk qqm;clear qqm;have H':=Q1.mk H;clear H;have qdE:wc.cell? ⟨ZP,0,none⟩=some (.slice Y3 Qa.length QH):=(Q8 Yo.out 0).trans rfl;have qdF:wc.cell? ⟨ZP,1,none⟩=some (.slice Y0 Qk.length QJ):=(Q8 Yo.out 1).trans rfl;have qtP:wc.cell? ⟨ZP,2,none⟩=some (.slice Y5 Qd.length QL):=(Q8 Yo.out 2).trans rfl;have qtQ:wc.cell? ⟨ZP,3,none⟩=some (.int .i64 Y8):=(Q8 Yo.out 3).trans rfl;have qtR:wc.cell? ⟨ZP,4,none⟩=some (.int .i64 Y7):=(Q8 Yo.out 4).trans rfl;have qdQ:=Q9 Yo.out 0;have qdR:=Q9 Yo.out 1;have qvR:=Q9 Yo.out 2;have qvS:=Q9 Yo.out 3;have qvT:=Q9 Yo.out 4;have qcc:0≤(Yd:Int):=of_decide_eq_true (by first|(with_reducible assumption)|assumption);have qce:Yd<(Qa.length:Int):=of_decide_eq_true (by first|(with_reducible assumption)|assumption);obtain ⟨qoy,qke,Ks⟩:=Kd.at_int Jq.out Yd qcc qce;cases qke;replace Ks:=(HB.out.cell (World.block_lt_of_cell? w _ Ks)).trans Ks;replace qcc:=eq_true qcc;replace qce:=eq_true qce
              go_wp2_with (first|((with_reducible refine Qs (f:=65) rfl ?_);refine Yj (some 56) rfl rfl Try.func65 (by kernel_rfl) rfl #[.int .i64 (rd Qa Yd),.int .i64 0,.int .i64 100000] rfl (by (try simp only [List.map_toArray,List.map_cons,List.map_nil]);first|done|rfl|(simp only [List.length_drop,List.length_take];rfl)) ?_;(with_reducible refine (Qj.calls (rd Qa Yd) 0 100000 true _ A21.out).mono ?_);rintro e w' ⟨rfl,⟨nd,rfl⟩⟩;refine ⟨_,rfl,?_⟩;have qgY:0≤(Yd:Int):=of_decide_eq_true (by first|(with_reducible assumption)|assumption);have qha:Yd<(Qk.length:Int):=of_decide_eq_true (by first|(with_reducible assumption)|assumption);obtain ⟨qq7,qpe,UI⟩:=Kd.at_int JA.out Yd qgY qha;cases qpe;replace UI:=(HB.out.cell (World.block_lt_of_cell? w _ UI)).trans UI;replace qgY:=eq_true qgY;replace qha:=eq_true qha)|(go_at_call 65;(with_reducible refine (Qj.calls (rd Qk Yd) 0 1000 true _ A24.out).mono ?_);rintro e w' ⟨rfl,⟨nd,rfl⟩⟩;have qpL:0≤(Yd:Int):=of_decide_eq_true (by first|(with_reducible assumption)|assumption);have qpY:Yd<(Qd.length:Int):=of_decide_eq_true (by first|(with_reducible assumption)|assumption);obtain ⟨qBA,e152,qdX⟩:=Kd.at_int JC.out Yd qpL qpY;cases e152;replace qdX:=(HB.out.cell (World.block_lt_of_cell? w _ qdX)).trans qdX;replace qpL:=eq_true qpL;replace qpY:=eq_true qpY)|(go_at_call 65;(with_reducible refine (Qj.calls (rd Qd Yd) 0 100 X2 _ A27.out).mono ?_);rintro e w' ⟨rfl,⟨nd,rfl⟩⟩))
              go_roundg W7
              case measure=>have:=HJ1.out;have:=HK2.out;have:=qiT.out;omega
              case rel=>exact ⟨(X2),(wrap64 (Yd+1)),(by first|rfl|(simp;done)|(simp [*];done)),(by first|rfl|(simp;done)|(simp [*];done)),H',⟨by have:=HJ1.out;have:=HK2.out;have:=qiT.out;omega⟩,⟨by (with_reducible repeat (first|refine Q4 ?_ _|refine Q6 ?_|refine Q3 ?_ _));exact Yo.out⟩,⟨by repeat (first|(with_reducible first|exact HB.out|apply Q2|apply Q0|apply Q5|refine Q7 ?_ UT.out)|exact HB.out)⟩⟩
             rw [if_neg c26] at H
             exact absurd H (by simp)
            replace c25:=Bool.eq_false_iff.mpr c25;subst c25
            have H1:(Qn.l0 W7 (Qa.length:Int) false (wrap64 (Yd+1)) Qa Qk Qd Y8 Y7)=some r:=by rw [if_neg (show ¬ (false=true) by decide)] at H;exact H
            clear H;have H:=H1;clear H1;have H':=Q1.mk H;clear H;have qlY:wc.cell? ⟨ZP,0,none⟩=some (.slice Y3 Qa.length QH):=(Q8 Yo.out 0).trans rfl;have qlZ:wc.cell? ⟨ZP,1,none⟩=some (.slice Y0 Qk.length QJ):=(Q8 Yo.out 1).trans rfl;have ql0:wc.cell? ⟨ZP,2,none⟩=some (.slice Y5 Qd.length QL):=(Q8 Yo.out 2).trans rfl;have qtS:wc.cell? ⟨ZP,3,none⟩=some (.int .i64 Y8):=(Q8 Yo.out 3).trans rfl;have qtT:wc.cell? ⟨ZP,4,none⟩=some (.int .i64 Y7):=(Q8 Yo.out 4).trans rfl;have qmA:=Q9 Yo.out 0;have qmB:=Q9 Yo.out 1;have qmC:=Q9 Yo.out 2;have qvU:=Q9 Yo.out 3;have qvV:=Q9 Yo.out 4;have qcc:0≤(Yd:Int):=of_decide_eq_true (by first|(with_reducible assumption)|assumption);have qce:Yd<(Qa.length:Int):=of_decide_eq_true (by first|(with_reducible assumption)|assumption);obtain ⟨qoy,qke,Ks⟩:=Kd.at_int Jq.out Yd qcc qce;cases qke;replace Ks:=(HB.out.cell (World.block_lt_of_cell? w _ Ks)).trans Ks;replace qcc:=eq_true qcc;replace qce:=eq_true qce
            go_wp2_with (first|((with_reducible refine Qs (f:=65) rfl ?_);refine Yj (some 56) rfl rfl Try.func65 (by kernel_rfl) rfl #[.int .i64 (rd Qa Yd),.int .i64 0,.int .i64 100000] rfl (by (try simp only [List.map_toArray,List.map_cons,List.map_nil]);first|done|rfl|(simp only [List.length_drop,List.length_take];rfl)) ?_;(with_reducible refine (Qj.calls (rd Qa Yd) 0 100000 true _ A21.out).mono ?_);rintro e w' ⟨rfl,⟨nd,rfl⟩⟩;refine ⟨_,rfl,?_⟩;have qgY:0≤(Yd:Int):=of_decide_eq_true (by first|(with_reducible assumption)|assumption);have qha:Yd<(Qk.length:Int):=of_decide_eq_true (by first|(with_reducible assumption)|assumption);obtain ⟨qq7,qpe,UI⟩:=Kd.at_int JA.out Yd qgY qha;cases qpe;replace UI:=(HB.out.cell (World.block_lt_of_cell? w _ UI)).trans UI;replace qgY:=eq_true qgY;replace qha:=eq_true qha)|(go_at_call 65;(with_reducible refine (Qj.calls (rd Qk Yd) 0 1000 false _ A24.out).mono ?_);rintro e w' ⟨rfl,⟨nd,rfl⟩⟩))
            go_roundg W7
            case measure=>have:=HJ1.out;have:=HK2.out;have:=qiT.out;omega
            case rel=>exact ⟨(false),(wrap64 (Yd+1)),(by first|rfl|(simp;done)|(simp [*];done)),(by first|rfl|(simp;done)|(simp [*];done)),H',⟨by have:=HJ1.out;have:=HK2.out;have:=qiT.out;omega⟩,⟨by (with_reducible repeat (first|refine Q4 ?_ _|refine Q6 ?_|refine Q3 ?_ _));exact Yo.out⟩,⟨by repeat (first|(with_reducible first|exact HB.out|apply Q2|apply Q0|apply Q5|refine Q7 ?_ UT.out)|exact HB.out)⟩⟩
           rw [if_neg c23] at H
           exact absurd H (by simp)
          replace c22:=Bool.eq_false_iff.mpr c22;subst c22
          have H1:(Qn.l0 W7 (Qa.length:Int) false (wrap64 (Yd+1)) Qa Qk Qd Y8 Y7)=some r:=by rw [if_neg (show ¬ (false=true) by decide)] at H;exact H
          clear H;have H:=H1;clear H1;have H':=Q1.mk H;clear H;have qtU:wc.cell? ⟨ZP,0,none⟩=some (.slice Y3 Qa.length QH):=(Q8 Yo.out 0).trans rfl;have qtV:wc.cell? ⟨ZP,1,none⟩=some (.slice Y0 Qk.length QJ):=(Q8 Yo.out 1).trans rfl;have qtW:wc.cell? ⟨ZP,2,none⟩=some (.slice Y5 Qd.length QL):=(Q8 Yo.out 2).trans rfl;have qtX:wc.cell? ⟨ZP,3,none⟩=some (.int .i64 Y8):=(Q8 Yo.out 3).trans rfl;have qtY:wc.cell? ⟨ZP,4,none⟩=some (.int .i64 Y7):=(Q8 Yo.out 4).trans rfl;have qvW:=Q9 Yo.out 0;have qvX:=Q9 Yo.out 1;have qvY:=Q9 Yo.out 2;have qvZ:=Q9 Yo.out 3;have qv0:=Q9 Yo.out 4;have qcc:0≤(Yd:Int):=of_decide_eq_true (by first|(with_reducible assumption)|assumption);have qce:Yd<(Qa.length:Int):=of_decide_eq_true (by first|(with_reducible assumption)|assumption);obtain ⟨qoy,qke,Ks⟩:=Kd.at_int Jq.out Yd qcc qce;cases qke;replace Ks:=(HB.out.cell (World.block_lt_of_cell? w _ Ks)).trans Ks;replace qcc:=eq_true qcc;replace qce:=eq_true qce
          go_wp2_with (first|((with_reducible refine Qs (f:=65) rfl ?_);refine Yj (some 56) rfl rfl Try.func65 (by kernel_rfl) rfl #[.int .i64 (rd Qa Yd),.int .i64 0,.int .i64 100000] rfl (by (try simp only [List.map_toArray,List.map_cons,List.map_nil]);first|done|rfl|(simp only [List.length_drop,List.length_take];rfl)) ?_;(with_reducible refine (Qj.calls (rd Qa Yd) 0 100000 false _ A21.out).mono ?_);rintro e w' ⟨rfl,⟨nd,rfl⟩⟩;refine ⟨_,rfl,?_⟩))
          go_roundg W7
          case measure=>have:=HJ1.out;have:=HK2.out;have:=qiT.out;omega
          case rel=>exact ⟨(false),(wrap64 (Yd+1)),(by first|rfl|(simp;done)|(simp [*];done)),(by first|rfl|(simp;done)|(simp [*];done)),H',⟨by have:=HJ1.out;have:=HK2.out;have:=qiT.out;omega⟩,⟨by (with_reducible repeat (first|refine Q4 ?_ _|refine Q6 ?_|refine Q3 ?_ _));exact Yo.out⟩,⟨by repeat (first|(with_reducible first|exact HB.out|apply Q2|apply Q0|apply Q5|refine Q7 ?_ UT.out)|exact HB.out)⟩⟩
         rw [if_neg c20] at H
         exact absurd H (by simp)
        rw [if_neg c19] at H
        exact absurd H (by simp)
       replace c18:=Bool.eq_false_iff.mpr c18;subst c18
       have H1:(some OA)=some r:=by rw [if_neg (show ¬ (false=true) by decide)] at H;exact H
       clear H;have H:=H1;clear H1;obtain rfl:=Option.some.inj H
       go_wp2
       go_ret
       exact ⟨by first|rfl|(simp [Qp,Qq]<;>rfl)|(simp [*,Qp,Qq]<;>rfl),by repeat (first|(with_reducible first|exact HB.out|apply Q2|apply Q0|apply Q5|refine Q7 ?_ UT.out)|exact HB.out)⟩
end
section
set_option maxRecDepth 100000 in
theorem Z3.calls6 (A0:Option Addr) (c0:Nat) (l0:List Int) (A1:Option Addr) (c1 n1:Nat) (A2:Option Addr) (c2 n2:Nat) (a3 a4:Int) (w:World) (hr0:Kd.C (Kd.int .i64) w A0 l0.length l0) (hl:l0.length≤6) :
  Calls Try.prog 78 #[.agg #[.slice A0 l0.length c0,.slice A1 n1 c1,.slice A2 n2 c2,.int .i64 a3,.int .i64 a4]] w fun e w'=>e = .returned (.agg (ar6 l0).toArray)∧Below w.heap.size w w':=by
 have hu:=Try.underlying111
 have hu2:=Try.underlying39
 have hu3:=Try.underlying115
 have HL:=Q1.mk hl
 have HR0:=Q1.mk hr0
 clear hr0 hl
 go_enter Try.func78,Try.ntmps78
 go_wp2
 go_region_law (refine step_copy_splice rfl (.tmp 4) (.tmp 7) 37 37 rfl 3 Try.underlying37 (by kernel_rfl) (some ⟨w.heap.size+1+1,0,none⟩) A0 6 6 l0.length c0 rfl rfl (w.heap.size+1+1) 0 (ar6 []) 115 ?c1 (l0.map (Value.int .i64)) (qnk HL.out) ?c2 ?c3 (qnl l0) (w.heap.size+2) _ (Below.refl _ _) (Nat.le_refl _) ?_;(case c1=>exact Q6 (by have h:=OH (((w.alloc (.cells #[.slice A0 l0.length c0,.slice A1 n1 c1,.slice A2 n2 c2,.int .i64 a3,.int .i64 a4] 111)).alloc (.cells (ar6 []).toArray 115))) (.cells (ar6 []).toArray 115);simp only [World.size_alloc] at h;exact h));(case c2=>exact fun h0=>⟨rfl,X8 HR0.out (by repeat (first|exact Below.refl _ _|apply Yi|apply Q2)) h0⟩);(case c3=>simpa [ar6] using HL.out);intro w4 hg4 hb4)
 have HG:=Q1.mk (show Is6 w4 (w.heap.size+1+1) l0 by have h:=hg4;unfold Hid at h;rw [qhj l0 HL.out] at h;exact h)
 have HZ:Is6 w4 (w.heap.size+1) []:=(hb4.block (w.heap.size+1) (by omega)).trans (Q6 (Q3 (by have h:=OH (w.alloc (.cells #[.slice A0 l0.length c0,.slice A1 n1 c1,.slice A2 n2 c2,.int .i64 a3,.int .i64 a4] 111)) (.cells (ar6 []).toArray 115);simp only [World.size_alloc] at h;exact h) _))
 have HZ:=Q1.mk HZ
 have HB:=Q1.mk (show Below w.heap.size w w4 from (Yi (Q2 (Q2 (Q2 (Below.refl w.heap.size w) _) _) _)).trans (hb4.mono (by omega)))
 clear hg4 hb4
 obtain ⟨g0,g1,g2,g3,g4,g5⟩:=HG.out.cells
 obtain ⟨z0,z1,z2,z3,z4,z5⟩:=HZ.out.cells
 obtain ⟨f0,f1,f2,f3,f4,f5⟩:=HZ.out.frozen
 go_wp2
 refine bodyPost_ret (results_cell_row rfl _ _ (w.heap.size+1) 115 (ar6 l0).toArray (0,0) _ rfl (HZ.out.put6 l0) Try.underlying115 rfl (by kernel_rfl)) rfl ?_
 refine ⟨rfl,?_⟩
 have h1:w.heap.size≤w.heap.size+1:=by omega
 repeat (with_reducible first|exact HB.out|refine Q7 ?_ h1)
def Z3.f (Qa Qk Qd:List Int) (Y8 Y7:Int):Option (Int × Int × Int × Int × Int × Int) :=
 if Qa.length≤6 then some (rd Qa 0,rd Qa 1,rd Qa 2,rd Qa 3,rd Qa 4,rd Qa 5) else none
theorem Z3.calls (Y3:Option Addr) (QH:Nat) (Qa:List Int) (Y0:Option Addr) (QJ:Nat) (Qk:List Int) (Y5:Option Addr) (QL:Nat) (Qd:List Int) (Y8 Y7 r1 r2 r3 r4 r5 r6:Int) (w:World)
  (Gp:Kd.C (Kd.int .i64) w Y3 Qa.length Qa) (Gz:Qa.length≤QH) (Gq:Kd.C (Kd.int .i64) w Y0 Qk.length Qk) (GA:Qk.length≤QJ) (Gr:Kd.C (Kd.int .i64) w Y5 Qd.length Qd) (GC:Qd.length≤QL)
  (h:Z3.f Qa Qk Qd Y8 Y7=some (r1,r2,r3,r4,r5,r6)) :
  Calls Try.prog 78 #[.agg #[.slice Y3 Qa.length QH,.slice Y0 Qk.length QJ,.slice Y5 Qd.length QL,.int .i64 Y8,.int .i64 Y7]] w fun e w' =>
   e = .returned (.agg #[.int .i64 r1,.int .i64 r2,.int .i64 r3,.int .i64 r4,.int .i64 r5,.int .i64 r6])∧Below w.heap.size w w':=by
 unfold Z3.f at h
 by_cases hv:Qa.length≤6
 ·
  rw [if_pos hv] at h
  injection h with h
  simp only [Prod.mk.injEq] at h
  obtain ⟨rfl,rfl,rfl,rfl,rfl,rfl⟩:=h
  exact Z3.calls6 Y3 QH Qa Y0 QJ Qk.length Y5 QL Qd.length Y8 Y7 w Gp hv
 ·
  rw [if_neg hv] at h
  exact absurd h (by simp)
end
section
attribute [local go_sem] YH YJ Z0 Z1 Yr Ys YI YK
def OB (mesh:Int):Nat→List Int→Int→List Int × Int
 | 0,n,t=>(n,t)
 | j+1,n,t=>if mesh≤(j:Int) then OB mesh j (n.set j (wrap64 (rd n j-mn (rd n j) t))) (wrap64 (t-mn (rd n j) t)) else (n,t)
def Kw (n spawn:List Int) (k:Nat):List Int:=(List.range k).map fun i:Nat=>wrap64 (rd n i*rd spawn i)
def Ux (last:Int) (n keep:List Int):Nat→List Int
 | 0=>[0,0,0,0,0,0]
 | k+1=>(Ux last n keep k).set (mn ((k:Int)+1) last).toNat (wrap64 (rd (Ux last n keep k) (mn ((k:Int)+1) last)+wrap64 (Int.tdiv (wrap64 (rd n k*rd keep k)) 1000)))
def sumW (l:List Int):Int:=l.foldl (fun s x=>wrap64 (s+x)) 0
theorem qk4 (l:List Int) (hl:l.length≤9223372036854775806) (d:Nat):∀ (s:Int) (i:Nat),i≤l.length→l.length-i=d→QR.l0 (d+1) s l (l.length:Int) i=some ((l.drop i).foldl (fun s x=>wrap64 (s+x)) s):=by
 induction d with
 | zero =>
  intro s i h1 h2
  obtain rfl:i=l.length:=by omega
  simp [QR.l0]
 | succ d ih =>
  intro s i h1 h2
  have hi:i<l.length:=by omega
  rw [QR.l0,if_pos (by omega),if_pos (by omega),if_pos (by omega)]
  have hw:wrap64 ((i:Int)+1)=((i+1:Nat):Int):=by unfold wrap64;omega
  rw [hw,ih _ (i+1) (by omega) (by omega)]
  conv=>rhs;rw [List.drop_eq_getElem_cons hi]
  simp only [rd,Int.toNat_natCast,List.getD_eq_getElem?_getD,List.getElem?_eq_getElem hi,Option.getD_some,List.foldl_cons]
theorem qee (l:List Int) (hl:l.length≤9223372036854775806):QR.f (l.length+1) l=some (sumW l):=by
 have h:=qk4 l hl l.length 0 0 (by omega) (by omega)
 simpa [QR.f,sumW] using h
theorem qaz (last:Int) (n keep:List Int):∀ k,(Ux last n keep k).length=6
 | 0=>rfl
 | k+1=>by rw [Ux,List.length_set,qaz last n keep k]
theorem qjf (m i:Int) (h:m≤i) (h0:0≤m):0≤i:=by omega
set_option maxHeartbeats 4000000 in
set_option maxRecDepth 100000 in
theorem Za.calls6 (A0:Option Addr) (c0 m:Nat) (A1:Option Addr) (c1:Nat) (l1:List Int) (A2:Option Addr) (c2:Nat) (l2:List Int) (a3 a4:Int) (n:List Int) (take rec_:Int) (w:World)
  (hn:n.length=6) (hm1:1≤m) (hm6:m≤6) (e1:l1.length=m) (e2:l2.length=m) (hm0:0≤a4) (hmm:a4<m) (hr1:Kd.C (Kd.int .i64) w A1 l1.length l1) (hr2:Kd.C (Kd.int .i64) w A2 l2.length l2) :
  Calls Try.prog 77 #[.agg #[.slice A0 m c0,.slice A1 l1.length c1,.slice A2 l2.length c2,.int .i64 a3,.int .i64 a4],.agg #[.int .i64 (rd n 0),.int .i64 (rd n 1),.int .i64 (rd n 2),.int .i64 (rd n 3),.int .i64 (rd n 4),.int .i64 (rd n 5)],.int .i64 take,.int .i64 rec_] w fun e w' =>
   e = .returned (.tuple #[.int .i64 (sumW (Kw (OB a4 m n take).1 l2 m)),.agg (ar6 ((Ux ((m:Int)-1) (OB a4 m n take).1 l1 m).set 0 (wrap64 (rd (Ux ((m:Int)-1) (OB a4 m n take).1 l1 m) 0+rec_)))).toArray])∧Below w.heap.size w w':=by
 have hu:=Try.underlying111
 have hu2:=Try.underlying39
 have hu3:=Try.underlying115
 have HR1:=Q1.mk hr1
 have HR2:=Q1.mk hr2
 have HN:=Q1.mk hn
 have HE1:=Q1.mk e1
 have HE2:=Q1.mk e2
 have HB:=Q1.mk (Below.refl w.heap.size w)
 clear hr1 hr2 hn e1 e2
 obtain ⟨R,hR⟩:∃ R,R=OB a4 m n take:=⟨_,rfl⟩
 rw [← hR]
 have HRR:=Q1.mk hR
 clear hR
 go_enter Try.func77,Try.ntmps77
 go_wp2_with (fail)
 have BR0:(((w.alloc (.cells #[.slice A0 m c0,.slice A1 l1.length c1,.slice A2 l2.length c2,.int .i64 a3,.int .i64 a4] 111)).alloc (.cells (ar6 n).toArray 115)).alloc (.cells (ar6 []).toArray 115)).heap[w.heap.size]? = some (.cells #[.slice A0 m c0,.slice A1 l1.length c1,.slice A2 l2.length c2,.int .i64 a3,.int .i64 a4] 111 (0,0)):=Q3 (Q3 (OH w _) _) _
 have I50:Is6 (((w.alloc (.cells #[.slice A0 m c0,.slice A1 l1.length c1,.slice A2 l2.length c2,.int .i64 a3,.int .i64 a4] 111)).alloc (.cells (ar6 n).toArray 115)).alloc (.cells (ar6 []).toArray 115)) (w.heap.size+1) n:=by
  have h:=OH (w.alloc (.cells #[.slice A0 m c0,.slice A1 l1.length c1,.slice A2 l2.length c2,.int .i64 a3,.int .i64 a4] 111)) (.cells (ar6 n).toArray 115)
  rw [World.size_alloc] at h
  exact Q3 h _
 have I90:Is6 (((w.alloc (.cells #[.slice A0 m c0,.slice A1 l1.length c1,.slice A2 l2.length c2,.int .i64 a3,.int .i64 a4] 111)).alloc (.cells (ar6 n).toArray 115)).alloc (.cells (ar6 []).toArray 115)) (w.heap.size+1+1) []:=by
  have h:=OH ((w.alloc (.cells #[.slice A0 m c0,.slice A1 l1.length c1,.slice A2 l2.length c2,.int .i64 a3,.int .i64 a4] 111)).alloc (.cells (ar6 n).toArray 115)) (.cells (ar6 []).toArray 115)
  rw [World.size_alloc,World.size_alloc] at h
  exact h
 have BR:=Q1.mk BR0
 have I5:=Q1.mk I50
 have I9:=Q1.mk I90
 clear BR0 I50 I90
 go_loopg [2,11] m (fun j v2 v11 w' => ∃ (t i:Int) (n':List Int),v2 = .int .i64 t∧v11 = .int .i64 i∧Q1 (i=(j:Int)-1)∧Q1 (j≤m)∧Q1 (n'.length=6)∧Q1 (R=OB a4 j n' t)∧Q1 (w'.heap[w.heap.size]? = some (.cells #[.slice A0 m c0,.slice A1 l1.length c1,.slice A2 l2.length c2,.int .i64 a3,.int .i64 a4] 111 (0,0)))∧Q1 (Is6 w' (w.heap.size+1) n')∧Q1 (Is6 w' (w.heap.size+1+1) [])∧Q1 (Below w.heap.size w w'))
 case atStart=>exact ⟨take,_,n,rfl,rfl,⟨rfl⟩,⟨Nat.le_refl _⟩,HN,HRR,BR,I5,I9,⟨Q2 (Q2 (Q2 HB.out _) _) _⟩⟩
 case round =>
  clear HRR BR I5 I9 HB HN
  obtain ⟨t,i,n',rfl,rfl,HI,HJ,HN,HRR,BR,I5,I9,HB⟩:=hrel
  have b0:wr.cell? ⟨w.heap.size,0,none⟩=some (.slice A0 m c0):=(Q8 BR.out 0).trans rfl
  have b1:wr.cell? ⟨w.heap.size,1,none⟩=some (.slice A1 l1.length c1):=(Q8 BR.out 1).trans rfl
  have b2:wr.cell? ⟨w.heap.size,2,none⟩=some (.slice A2 l2.length c2):=(Q8 BR.out 2).trans rfl
  have b3:wr.cell? ⟨w.heap.size,3,none⟩=some (.int .i64 a3):=(Q8 BR.out 3).trans rfl
  have b4:wr.cell? ⟨w.heap.size,4,none⟩=some (.int .i64 a4):=(Q8 BR.out 4).trans rfl
  by_cases hc:a4≤i
  ·
   have h0:0≤i:=qjf a4 i hc hm0
   have h6:i<6:=by have:=HI.out;have:=HJ.out;omega
   have hx:=I5.out.celli i h0 h6
   have hf:=I5.out.frz i.toNat
   obtain ⟨c,hce⟩:∃ c,(if t<rd n' i then t else rd n' i)=c:=⟨_,rfl⟩
   have HC:=Q1.mk (show mn (rd n' i) t=c from hce)
   go_wp2
   cases gk with
   | zero=>exact absurd h0 (by have:=HI.out;omega)
   | succ j =>
    have hij:i=(j:Int):=by have:=HI.out;omega
    subst hij
    go_roundg j
    case measure=>omega
    case rel=>exact ⟨_,_,_,rfl,rfl,⟨rfl⟩,⟨by have:=HJ.out;omega⟩,⟨by rw [List.length_set];exact HN.out⟩,⟨by rw [HRR.out,OB,if_pos hc,HC.out];rfl⟩,⟨Qm BR.out (Nat.ne_of_lt (Nat.lt_succ_self _)) _⟩,⟨I5.out.seti HN.out _ h0 h6 _⟩,⟨I9.out.far (Nat.succ_ne_self _) _⟩,⟨Q7 HB.out (Nat.le_succ _)⟩⟩
  ·
   have HRn:=Q1.mk (show R.1=n' by
    rw [HRR.out]
    cases gk with
    | zero=>rfl
    | succ j=>rw [OB,if_neg (by have:=HI.out;omega)])
   clear HRR HI HJ
   obtain ⟨W1,rfl⟩:∃ W1:World,W1=wr:=⟨_,rfl⟩
   have hlt:=I9.out.lt
   have I14:=Q1.mk (show Is6 (W1.alloc (.cells (ar6 []).toArray 115)) W1.heap.size [0,0,0,0,0,0] from OH W1 _)
   replace BR:=Q1.mk (Q3 BR.out (.cells (ar6 []).toArray 115))
   replace I5:=Q1.mk (I5.out.alloc (.cells (ar6 []).toArray 115))
   replace I9:=Q1.mk (I9.out.alloc (.cells (ar6 []).toArray 115))
   replace HB:=Q1.mk (Q2 HB.out (.cells (ar6 []).toArray 115))
   go_wp2
   clear b0 b1 b2 b3 b4
   go_loopg [13,46] m (fun d v13 v46 w' => ∃ (i:Int) (k:Nat) (sv:Value),v46 = .int .i64 i∧sv=v13∧Q1 (i=(k:Int))∧Q1 (k+d=m)∧Q1 (Kd.R (Kd.int .i64) 3 w' w.heap.size (fun _=>True) sv (Kw n' l2 k))∧Q1 (Is6 w' W1.heap.size (Ux ((m:Int)-1) n' l1 k))∧Q1 (w'.heap[w.heap.size]? = some (.cells #[.slice A0 m c0,.slice A1 l1.length c1,.slice A2 l2.length c2,.int .i64 a3,.int .i64 a4] 111 (0,0)))∧Q1 (Is6 w' (w.heap.size+1) n')∧Q1 (Is6 w' (w.heap.size+1+1) [])∧Q1 (Below w.heap.size w w'))
   case atStart=>exact ⟨_,0,_,rfl,rfl,⟨rfl⟩,⟨Nat.zero_add _⟩,⟨Kd.R_nil _ _ _ _ _⟩,I14,BR,I5,I9,HB⟩
   case round =>
    clear I14 BR I5 I9 HB;obtain ⟨x,k,sv,rfl,rfl,HX,HD,HS,I14,BR,I5,I9,HB⟩:=hrel;have b0:wr.cell? ⟨w.heap.size,0,none⟩=some (.slice A0 m c0):=(Q8 BR.out 0).trans rfl;have b1:wr.cell? ⟨w.heap.size,1,none⟩=some (.slice A1 l1.length c1):=(Q8 BR.out 1).trans rfl;have b2:wr.cell? ⟨w.heap.size,2,none⟩=some (.slice A2 l2.length c2):=(Q8 BR.out 2).trans rfl
    by_cases hk:x<(m:Int)
    ·
     have hx0:0≤x:=by have:=HX.out;omega
     have hx6:x<6:=by omega
     have h5:=I5.out.celli x hx0 hx6;obtain ⟨ad2,ea2,hw2⟩:=Kd.at_int HR2.out x hx0 (by have:=HE2.out;omega);subst ea2;have L2:=Q1.mk (World.block_lt_of_cell? w _ hw2);have hA2:=(HB.out.cell L2.out).trans hw2;have HW2:=Q1.mk hw2;clear hw2
     have hl2:x<(l2.length:Int):=by have:=HE2.out;omega
     obtain ⟨p,hp⟩:∃ p,p=wrap64 (rd n' x*rd l2 x):=⟨_,rfl⟩
     have hpw:IntKind.i64.wrap (rd n' x*rd l2 x)=p:=by rw [hp,Yh]
     have HP:=Q1.mk hp;clear hp
     go_wp2
     have hne5:=Kd.R_ne (Kd.R_drew HS.out) (Q6 I5.out) (by decide);have hneR:=Kd.R_ne (Kd.R_drew HS.out) (Q6 BR.out) (by decide)
     go_region_held3 (fun w'=>w'.cell? ⟨w.heap.size+1,x.toNat,none⟩=some (.int .i64 (rd n' x))∧w'.cell? ⟨w.heap.size,2,none⟩=some (.slice (some ad2) l2.length c2)∧w'.cell? (ad2.add x.toNat)=some (.int .i64 (rd l2 x)))
      (first|go_keep|exact ⟨(Is6.celli (JF (Q6 I5.out) hg1 hne5) x hx0 hx6),((Q8 (JF (Q6 BR.out) hg1 hneR) 2).trans rfl),((HB1.cell L2.out).trans HW2.out)⟩)
      ((refine Kd.R_append_step (Kd.int .i64) (w0:=w) (W:=wr.drew) w.heap.size ?hw (.tmp 49) (.tmp 60) 37 3 (.int .i64 0) 8 ?ho Try.underlying37 WK rfl ?n1 ?n2 sv (Kw n' l2 k) p [.int .i64 p] (fun _=>True) (fun _=>False) ?e1 ?e2 rfl (fun _ h=>h.elim) (fun _ _=>trivial) (Kd.R_drew HS.out) (Yi HB.out) ?c1 ?c2 ?_;(case hw=>rfl);(case ho=>rfl);(case n1=>decide);(case n2=>decide);(case e1=>rfl);(case e2=>rfl);(case c1=>exact Qe (Yi HB.out));(case c2=>have:=HD.out;simp [Kw];omega);intro v1 w1 HS1 HB1 hg1 qgE))
     have J5:=Q1.mk (show Is6 w1 (w.heap.size+1) n' from JF (Q6 I5.out) hg1 (Kd.R_ne (Kd.R_drew HS.out) (Q6 I5.out) (by decide)));have J9:=Q1.mk (show Is6 w1 (w.heap.size+1+1) [] from JF (Q6 I9.out) hg1 (Kd.R_ne (Kd.R_drew HS.out) (Q6 I9.out) (by decide)));have J14:=Q1.mk (show Is6 w1 W1.heap.size _ from JF (Q6 I14.out) hg1 (Kd.R_ne (Kd.R_drew HS.out) (Q6 I14.out) (by decide)));have JR:=Q1.mk (JF (Q6 BR.out) hg1 (Kd.R_ne (Kd.R_drew HS.out) (Q6 BR.out) (by decide)));have JS:=Q1.mk HS1;have JB:=Q1.mk HB1;clear I5 I9 I14 BR HS HB HS1 HB1 hg1 qgE b0 b1 b2 h5 hA2 hl2 hpw;obtain ⟨y,hy⟩:∃ y,y=Ux ((m:Int)-1) n' l1 k:=⟨_,rfl⟩;have HY:=Q1.mk hy;rw [← hy] at J14;clear hy;have d1:w1.cell? ⟨w.heap.size,1,none⟩=some (.slice A1 l1.length c1):=(Q8 JR.out 1).trans rfl;have h5:=J5.out.celli x hx0 hx6;obtain ⟨ad1,ea1,hw1⟩:=Kd.at_int HR1.out x hx0 (by have:=HE1.out;omega);subst ea1;have L1:=Q1.mk (World.block_lt_of_cell? w _ hw1);have hA1:=(JB.out.cell L1.out).trans hw1;have HW1:=Q1.mk hw1;clear hw1
     have hl1:x<(l1.length:Int):=by have:=HE1.out;omega
     obtain ⟨jx,hjx⟩:∃ jx,(if (m:Int)-1<x+1 then (m:Int)-1 else x+1)=jx:=⟨_,rfl⟩;have HJX:=Q1.mk (show mn (x+1) ((m:Int)-1)=jx from hjx)
     have hj0:0≤jx:=by rw [← hjx];split<;>omega
     have hj6:jx<6:=by rw [← hjx];split<;>omega
     have h14:=J14.out.celli jx hj0 hj6;have f14:=J14.out.frz jx.toNat
     have hwx:IntKind.i64.wrap (x+1)=x+1:=by rw [Yh];unfold wrap64;omega
     obtain ⟨q1,hq1⟩:∃ q1,IntKind.i64.wrap (rd n' x*rd l1 x)=q1:=⟨_,rfl⟩;obtain ⟨q2,hq2⟩:∃ q2,IntKind.i64.wrap (Int.tdiv q1 1000)=q2:=⟨_,rfl⟩;obtain ⟨q3,hq3⟩:∃ q3,IntKind.i64.wrap (rd y jx+q2)=q3:=⟨_,rfl⟩;have HQ:=Q1.mk (show q3=wrap64 (rd y jx+wrap64 (Int.tdiv (wrap64 (rd n' x*rd l1 x)) 1000)) by rw [← hq3,← hq2,← hq1,Yh,Yh,Yh])
     go_wp2
     go_still_tail 19,(by kernel_rfl)
     change wpList _ _ _ _ _ w1.drew
     go_wp2
     cases gk with
     | zero=>exact absurd hk (by have:=HX.out;have:=HD.out;omega)
     | succ d =>
      have hxk:x=(k:Int):=HX.out
      go_roundg d
      case measure=>omega
      case rel =>
       have hgt:w.heap.size<W1.heap.size:=by omega
       refine ⟨_,k+1,_,rfl,rfl,⟨by rw [hxk];rfl⟩,⟨by have:=HD.out;omega⟩,⟨?_⟩,⟨?_⟩,⟨Qm (Q6 JR.out) (Nat.ne_of_lt hgt) _⟩,⟨J5.out.drew.far (Nat.ne_of_lt (by show w.heap.size+1<W1.heap.size;omega)) _⟩,⟨J9.out.drew.far (Nat.ne_of_lt hlt) _⟩,⟨Q7 (Yi JB.out) (Nat.le_of_lt hgt)⟩⟩
       ·
        have e:Kw n' l2 (k+1)=Kw n' l2 k++[p]:=by
         rw [HP.out,hxk];simp [Kw,List.range_succ]
        rw [e]
        exact qjZ (Kd.R_drew JS.out) J14.out.drew _ _
       ·
        have e:Ux ((m:Int)-1) n' l1 (k+1)=y.set jx.toNat q3:=by
         rw [Ux,← HY.out,← hxk,HJX.out,HQ.out]
        rw [e]
        exact J14.out.drew.seti (by rw [HY.out];exact qaz _ _ _ k) jx hj0 hj6 q3
    ·
     have hkm:k=m:=by have:=HX.out;have:=HD.out;omega
     subst hkm;obtain ⟨y,hy⟩:∃ y,y=Ux ((k:Int)-1) n' l1 k:=⟨_,rfl⟩;have HY:=Q1.mk hy;rw [← hy] at I14;clear hy;obtain ⟨i0,i1,i2,i3,i4,i5⟩:=I14.out.cells;have f0:=I14.out.frz 0;obtain ⟨z,hz⟩:∃ z,wrap64 (rd y 0+rec_)=z:=⟨_,rfl⟩;obtain ⟨As,cs,hsv⟩:=Kd.R_slice HS.out;subst hsv;have hcs:=(Kd.R_reads' HS.out).2.1;have HSL:=Q1.mk (show (Kw n' l2 k).length=k by simp [Kw])
     have hgt:w.heap.size<W1.heap.size:=by omega
     have Y14:=Q1.mk (show Is6 (wr.setCell ⟨W1.heap.size,0,none⟩ (.int .i64 z)) W1.heap.size (y.set 0 z) from I14.out.set (by rw [HY.out];exact qaz _ _ _ k) 0 (by omega) z);have YS:=Q1.mk (qjZ HS.out I14.out 0 (.int .i64 z));have Y9:=Q1.mk (I9.out.far (p:=⟨W1.heap.size,0,none⟩) (Nat.ne_of_lt hlt) (.int .i64 z));have YB:=Q1.mk (Q7 (j:=0) (v:=.int .i64 z) HB.out (Nat.le_of_lt hgt))
     go_wp2
     generalize wr.setCell ⟨W1.heap.size,0,none⟩ (.int .i64 z)=w2 at Y14 YS Y9 YB ⊢
     clear i0 i1 i2 i3 i4 i5 f0 b0 b1 b2;obtain ⟨i0,i1,i2,i3,i4,i5⟩:=Y14.out.cells;obtain ⟨z0,z1,z2,z3,z4,z5⟩:=Y9.out.cells;obtain ⟨f0,f1,f2,f3,f4,f5⟩:=Y9.out.frozen
     go_region_with (go_at_call 97;refine (QR.calls ((Kw n' l2 k).length+1) As cs (Kw n' l2 k) (sumW (Kw n' l2 k)) _ ?hr hcs ?hs).mono ?_;(case hr=>exact Kd.C_below (Kd.R_reads' YS.out).2.2 (by repeat (first|exact Below.refl _ _|apply Yi|apply Q0)));(case hs=>exact qee _ (by rw [HSL.out];omega));rintro e w' ⟨rfl,⟨nq,rfl⟩⟩)
     all_goals
      go_wp2
      refine bodyPost_ret (qhh rfl _ _ (w.heap.size+1+1) 115 (ar6 (y.set 0 z)).toArray (0,0) _ rfl (Is6.put6 (Y9.out.drewN _) (y.set 0 z)) Try.underlying115 rfl (by kernel_rfl)) rfl ?_;refine ⟨?_,?_⟩
      ·
       show Ending.returned (.tuple #[.int .i64 (sumW (Kw n' l2 k)),.agg (ar6 (y.set 0 z)).toArray])=_
       rw [HRn.out,← HY.out,hz]
      ·
       have h1:w.heap.size≤w.heap.size+1+1:=by omega
       exact Q7 (Q7 (Q7 (Q7 (Q7 (Q7 (Q0 YB.out _) h1) h1) h1) h1) h1) h1
def qcy (m:Nat) (mesh:Int) (keep spawn n:List Int) (take rec_:Int):Int × List Int :=
 (sumW (Kw (OB mesh m n take).1 spawn m),(Ux ((m:Int)-1) (OB mesh m n take).1 keep m).set 0 (wrap64 (rd (Ux ((m:Int)-1) (OB mesh m n take).1 keep m) 0+rec_)))
def okR (l0 l1 l2:List Int) (a4:Int):Prop:=1≤l0.length∧l0.length≤6∧l1.length=l0.length∧l2.length=l0.length∧0≤a4∧a4<(l0.length:Int)
instance (l0 l1 l2:List Int) (a4:Int):Decidable (okR l0 l1 l2 a4):=by unfold okR;infer_instance
def Za.f (Qa Qk Qd:List Int) (Y8 Y7 qbR qbS qbT qbU qbV qbW a2 a3:Int):Option (Int × Int × Int × Int × Int × Int × Int) :=
 if okR Qa Qk Qd Y7 then
  some ((qcy Qa.length Y7 Qk Qd [qbR,qbS,qbT,qbU,qbV,qbW] a2 a3).1,
   rd (qcy Qa.length Y7 Qk Qd [qbR,qbS,qbT,qbU,qbV,qbW] a2 a3).2 0,rd (qcy Qa.length Y7 Qk Qd [qbR,qbS,qbT,qbU,qbV,qbW] a2 a3).2 1,
   rd (qcy Qa.length Y7 Qk Qd [qbR,qbS,qbT,qbU,qbV,qbW] a2 a3).2 2,rd (qcy Qa.length Y7 Qk Qd [qbR,qbS,qbT,qbU,qbV,qbW] a2 a3).2 3,
   rd (qcy Qa.length Y7 Qk Qd [qbR,qbS,qbT,qbU,qbV,qbW] a2 a3).2 4,rd (qcy Qa.length Y7 Qk Qd [qbR,qbS,qbT,qbU,qbV,qbW] a2 a3).2 5)
 else none
theorem Za.calls (Y3:Option Addr) (QH:Nat) (Qa:List Int) (Y0:Option Addr) (QJ:Nat) (Qk:List Int) (Y5:Option Addr) (QL:Nat) (Qd:List Int) (Y8 Y7 qbR qbS qbT qbU qbV qbW a2 a3 r1 r2 r3 r4 r5 r6 r7:Int) (w:World)
  (Gp:Kd.C (Kd.int .i64) w Y3 Qa.length Qa) (Gz:Qa.length≤QH) (Gq:Kd.C (Kd.int .i64) w Y0 Qk.length Qk) (GA:Qk.length≤QJ) (Gr:Kd.C (Kd.int .i64) w Y5 Qd.length Qd) (GC:Qd.length≤QL)
  (h:Za.f Qa Qk Qd Y8 Y7 qbR qbS qbT qbU qbV qbW a2 a3=some (r1,r2,r3,r4,r5,r6,r7)) :
  Calls Try.prog 77 #[.agg #[.slice Y3 Qa.length QH,.slice Y0 Qk.length QJ,.slice Y5 Qd.length QL,.int .i64 Y8,.int .i64 Y7],.agg #[.int .i64 qbR,.int .i64 qbS,.int .i64 qbT,.int .i64 qbU,.int .i64 qbV,.int .i64 qbW],.int .i64 a2,.int .i64 a3] w fun e w' =>
   e = .returned (.tuple #[.int .i64 r1,.agg #[.int .i64 r2,.int .i64 r3,.int .i64 r4,.int .i64 r5,.int .i64 r6,.int .i64 r7]])∧Below w.heap.size w w':=by
 unfold Za.f at h
 by_cases hv:okR Qa Qk Qd Y7
 ·
  rw [if_pos hv] at h
  obtain ⟨h1,h2,h3,h4,h5,h6⟩:=hv
  injection h with h
  simp only [Prod.mk.injEq] at h
  obtain ⟨rfl,rfl,rfl,rfl,rfl,rfl,rfl⟩:=h
  exact Za.calls6 Y3 QH Qa.length Y0 QJ Qk Y5 QL Qd Y8 Y7 [qbR,qbS,qbT,qbU,qbV,qbW] a2 a3 w rfl h1 h2 h3 h4 h5 h6 Gq Gr
 ·
  rw [if_neg hv] at h
  exact absurd h (by simp)
end
section
attribute [local go_sem] YH YJ Z0 Z1 Yr Ys YI YK
mutual
def QD.j0:Nat→List Int→List Int→Bool→List Int→List Int→List Int→Int→Int→Option (List Int × Int)
 | 0,_,_,_,_,_,_,_,_=>none
 | k+1,x1,x2,x9,GU,GV,GX,GY,GZ=>QD.l0 k x1 x2 x9 0 GU GV GX GY GZ
def QD.l0:Nat→List Int→List Int→Bool→Int→List Int→List Int→List Int→Int→Int→Option (List Int × Int)
 | 0,_,_,_,_,_,_,_,_,_=>none
 | k+1,x1,x2,x9,x10,GU,GV,GX,GY,GZ=>if x9=true then (QD.j2 k x1 x2 x9 x10 (decide (x10<(x1.length:Int))) GU GV GX GY GZ) else (QD.j2 k x1 x2 x9 x10 false GU GV GX GY GZ)
def QD.j2:Nat→List Int→List Int→Bool→Int→Bool→List Int→List Int→List Int→Int→Int→Option (List Int × Int)
 | 0,_,_,_,_,_,_,_,_,_,_=>none
 | k+1,x1,x2,x9,x10,x39,GU,GV,GX,GY,GZ=>if x39=true then (if 0≤x10 then (if x10<(x1.length:Int) then ((Qj.f (rd x1 x10) 0 100000000).bind fun t159=>(if t159=true then (if x10<(x2.length:Int) then ((Qj.f (rd x2 x10) 0 100000).bind fun qci=>(QD.l0 k x1 x2 qci (wrap64 (x10+1)) GU GV GX GY GZ)) else (none)) else (QD.l0 k x1 x2 false (wrap64 (x10+1)) GU GV GX GY GZ))) else (none)) else (none)) else (if x9=true then ((Z3.f GU GV GX GY GZ).bind fun Kj=>(QD.l1 k x1 x2 ([]:List Int) (x1.length:Int) 0 GU GV GX GY GZ Kj.1 Kj.2.1 Kj.2.2.1 Kj.2.2.2.1 Kj.2.2.2.2.1 Kj.2.2.2.2.2)) else (some (([]:List Int),92)))
def QD.l1:Nat→List Int→List Int→List Int→Int→Int→List Int→List Int→List Int→Int→Int→Int→Int→Int→Int→Int→Int→Option (List Int × Int)
 | 0,_,_,_,_,_,_,_,_,_,_,_,_,_,_,_,_=>none
 | k+1,x1,x2,x13,x59,x60,GU,GV,GX,GY,GZ,qnL,qnM,qnN,qnO,qnP,qnQ=>if x60<x59 then (if 0≤x60 then (if x60<(x1.length:Int) then (if x60<(x2.length:Int) then ((Za.f GU GV GX GY GZ qnL qnM qnN qnO qnP qnQ (rd x1 x60) (rd x2 x60)).bind fun qbY=>(if x13.length<17592186044416 then (QD.l1 k x1 x2 (x13++[qbY.1]) x59 (wrap64 (x60+1)) GU GV GX GY GZ qbY.2.1 qbY.2.2.1 qbY.2.2.2.1 qbY.2.2.2.2.1 qbY.2.2.2.2.2.1 qbY.2.2.2.2.2.2) else (none))) else (none)) else (none)) else (none)) else (if 0≤(x13.length:Int) then (if (x13.length:Int)≤(x13.length:Int) then (some ((x13.take ((x13.length:Int):Int).toNat),0)) else (none)) else (none))
end
def QD.f (k:Nat) (Qa:List Int) (Qk:List Int) (Qd:List Int) (Y8:Int) (Y7:Int) (l1:List Int) (l2:List Int):Option (List Int × Int):=(Qn.f k Qa Qk Qd Y8 Y7).bind fun t156=>(if t156=true then ((Qj.f (l1.length:Int) 1 10).bind fun t157=>(if t157=true then (QD.j0 k l1 l2 ((l2.length:Int)==(l1.length:Int)) Qa Qk Qd Y8 Y7) else (QD.j0 k l1 l2 false Qa Qk Qd Y8 Y7))) else (QD.j0 k l1 l2 false Qa Qk Qd Y8 Y7))
def QD.T15:Bool × List (List Nat × List Nat):=(true,[([],[]),([],[]),([],[]),([],[]),([],[]),([3,4],[3,4]),([5],[5]),([],[]),([],[]),([7,8],[7,8]),([9],[9]),([0,1,2,6,10],[0,1,2,6,10]),([11],[11]),([12],[12]),([12],[12]),([],[]),([13,11,0,1,2,3,4,5,6,7,8,9,10,11,12,13,15],[13]),([15,14,16,0,1,2,3,4,5,6,7,8,9,10,11,12,13,14,15,16],[14,15])])
def QD.B15:List Nat:=[0,0,0,0,0,24,56,0,0,384,896,2047,4095,8191,8191,0,49151,131071]
theorem QD.tab15:rtab .any (qfI Try.f25 15)=QD.T15:=by kernel_rfl
theorem QD.bits15:Ol QD.T15.2 QD.B15=true:=by kernel_rfl
set_option maxHeartbeats 8000000 in
set_option maxRecDepth 100000 in
theorem QD.calls (k:Nat) (Y3:Option Addr) (QH:Nat) (Qa:List Int) (Y0:Option Addr) (QJ:Nat) (Qk:List Int) (Y5:Option Addr) (QL:Nat) (Qd:List Int) (Y8:Int) (Y7:Int) (A1:Option Addr) (c1:Nat) (l1:List Int) (A2:Option Addr) (c2:Nat) (l2:List Int) (r1:List Int) (r2:Int) (w:World) (Gp:Kd.C (Kd.int .i64) w Y3 Qa.length Qa) (Gz:Qa.length≤QH) (Gq:Kd.C (Kd.int .i64) w Y0 Qk.length Qk) (GA:Qk.length≤QJ) (Gr:Kd.C (Kd.int .i64) w Y5 Qd.length Qd) (GC:Qd.length≤QL) (hr1:Kd.C (Kd.int .i64) w A1 l1.length l1) (hc1:l1.length≤c1) (hr2:Kd.C (Kd.int .i64) w A2 l2.length l2) (hc2:l2.length≤c2) (h:QD.f k Qa Qk Qd Y8 Y7 l1 l2=some (r1,r2)) :
  Calls Try.prog 25 #[.agg #[.slice Y3 Qa.length QH,.slice Y0 Qk.length QJ,.slice Y5 Qd.length QL,.int .i64 Y8,.int .i64 Y7],.slice A1 l1.length c1,.slice A2 l2.length c2] w fun e w' => ∃ v0_:Value,e = .returned (.tuple #[v0_,.int .i64 r2])∧Kd.V (Kd.int .i64) 3 w' w.heap.size (fun k_=>(w.heap.size≤k_)) v0_ r1∧Below w.heap.size w w':=by
 have qm3:=Try.underlying39
 have qkK:=Try.underlying111
 have qtj:=Try.underlying115
 have Jq:=Q1.mk Gp
 have JI:=Q1.mk Gz
 clear Gp Gz
 have JA:=Q1.mk Gq
 have JJ:=Q1.mk GA
 clear Gq GA
 have JC:=Q1.mk Gr
 have JK:=Q1.mk GC
 clear Gr GC
 have HR1:=Q1.mk hr1
 have HC1:=Q1.mk hc1
 clear hr1 hc1
 have HR2:=Q1.mk hr2
 have HC2:=Q1.mk hc2
 clear hr2 hc2
 have HB:=Q1.mk (Below.refl w.heap.size w)
 have H:((Qn.f k Qa Qk Qd Y8 Y7).bind fun t156=>(if t156=true then ((Qj.f (l1.length:Int) 1 10).bind fun t157=>(if t157=true then (QD.j0 k l1 l2 ((l2.length:Int)==(l1.length:Int)) Qa Qk Qd Y8 Y7) else (QD.j0 k l1 l2 false Qa Qk Qd Y8 Y7))) else (QD.j0 k l1 l2 false Qa Qk Qd Y8 Y7)))=some (r1,r2):=h
 clear h
 have HC4:=Q1.mk H
 clear H
 go_enter Try.func25,Try.ntmps25
 go_upto_region 2 with (first|((with_reducible refine QO (N:=3) rfl ?_);(try (refine Gn (by rfl) ?_;dsimp only));refine Yg ?hg (N:=3) ?hd (cs:=#[.slice Y3 Qa.length QH,.slice Y0 Qk.length QJ,.slice Y5 Qd.length QL,.int .i64 Y8,.int .i64 Y7]) (t:=39) ?hr ?_;(case hd=>rfl);(case hg=>rfl);(case hr=>first|(go_simp;done)|(go_simp;rfl));intro ZQ hg w5 hbox hb;have n0_:=Q1.mk (Qh (by repeat (first|(with_reducible first|exact HB.out|apply Q2|apply Q0|apply Q5)|exact HB.out)) hb);have n1_:=Q1.mk (hbox);have n2_:=Q1.mk ((by rw [hg];exact (Qe (by repeat (first|(with_reducible first|exact HB.out|apply Q2|apply Q0|apply Q5)|exact HB.out))):w.heap.size≤ZQ));have n3_:=n2_;clear HB;have HB:=n0_;have YG:=n1_;have qBn:=n2_;have ZN:=n3_;clear n0_ n1_ n2_ n3_ hb hbox hg;have WQ:w5.cell? ⟨ZQ,0,none⟩=some (.slice Y3 Qa.length QH):=(Q8 YG.out 0).trans rfl;have WR:w5.cell? ⟨ZQ,1,none⟩=some (.slice Y0 Qk.length QJ):=(Q8 YG.out 1).trans rfl;have qap:w5.cell? ⟨ZQ,2,none⟩=some (.slice Y5 Qd.length QL):=(Q8 YG.out 2).trans rfl;have qdG:w5.cell? ⟨ZQ,3,none⟩=some (.int .i64 Y8):=(Q8 YG.out 3).trans rfl;have qdH:w5.cell? ⟨ZQ,4,none⟩=some (.int .i64 Y7):=(Q8 YG.out 4).trans rfl;have WS:=Q9 YG.out 0;have WT:=Q9 YG.out 1;have qaq:=Q9 YG.out 2;have qdS:=Q9 YG.out 3;have qdT:=Q9 YG.out 4)|((with_reducible refine QO (N:=8) rfl ?_);(try (refine Gn (by rfl) ?_;dsimp only));refine Yg ?hg (N:=8) ?hd (cs:=#[.slice none 0 0,.slice none 0 0,.slice none 0 0,.int .i64 0,.int .i64 0]) (t:=111) ?hr ?_;(case hd=>rfl);(case hg=>rfl);(case hr=>first|(go_simp;done)|(go_simp;rfl));intro YM hg w7 hbox hb;have n0_:=Q1.mk (Qf (g:=ZQ) (by (with_reducible repeat (first|refine Q4 ?_ _|refine Q6 ?_|refine Q3 ?_ _));exact YG.out) hb);have n1_:=Q1.mk (Qh (by repeat (first|(with_reducible first|exact HB.out|apply Q2|apply Q0|apply Q5|refine Q7 ?_ ZN.out)|exact HB.out)) hb);have n2_:=Q1.mk (hbox);have n3_:=Q1.mk ((by rw [hg];exact (Qe (by repeat (first|(with_reducible first|exact HB.out|apply Q2|apply Q0|apply Q5|refine Q7 ?_ ZN.out)|exact HB.out))):w.heap.size≤YM));have n4_:=n3_;have n5_:=Q1.mk ((by rw [hg];exact Nat.ne_of_lt (QK (g:=ZQ) (by (with_reducible repeat (first|refine Q4 ?_ _|refine Q6 ?_|refine Q3 ?_ _));exact YG.out)):ZQ≠YM));have n6_:=Q1.mk (n5_.out.symm);clear YG HB;have YG:=n0_;have HB:=n1_;have QY:=n2_;have qBo:=n3_;have ZV:=n4_;have ZA:=n5_;have Uo:=n6_;clear n0_ n1_ n2_ n3_ n4_ n5_ n6_ hb hbox hg;have qD0:=Uo.out;have qD2:=ZA.out;have K1:w7.cell? ⟨YM,0,none⟩=some (.slice none 0 0):=(Q8 QY.out 0).trans rfl;have K2:w7.cell? ⟨YM,1,none⟩=some (.slice none 0 0):=(Q8 QY.out 1).trans rfl;have Ka:w7.cell? ⟨YM,2,none⟩=some (.slice none 0 0):=(Q8 QY.out 2).trans rfl;have qdI:w7.cell? ⟨YM,3,none⟩=some (.int .i64 0):=(Q8 QY.out 3).trans rfl;have qdJ:w7.cell? ⟨YM,4,none⟩=some (.int .i64 0):=(Q8 QY.out 4).trans rfl;have Ke:=Q9 QY.out 0;have Kf:=Q9 QY.out 1;have Kg:=Q9 QY.out 2;have qdU:=Q9 QY.out 3;have qdV:=Q9 QY.out 4))
 (try simp only [Act.put,List.setIfInBounds_toArray,List.set_cons_zero,List.set_cons_succ])
 go_cut [9] (fun v9 wc => ∃ (kq:Nat) (UR:Bool),v9 = .bool UR∧Q1 (QD.j0 kq l1 l2 UR Qa Qk Qd Y8 Y7=some (r1,r2))∧Q1 (kq≤k)∧Q1 (wc.heap[ZQ]? = some (.cells #[(.slice Y3 Qa.length QH),(.slice Y0 Qk.length QJ),(.slice Y5 Qd.length QL),.int .i64 Y8,.int .i64 Y7] 39 (0,0)))∧Q1 (wc.heap[YM]? = some (.cells #[(.slice Y3 Qa.length QH),(.slice Y0 Qk.length QJ),(.slice Y5 Qd.length QL),.int .i64 Y8,.int .i64 Y7] 111 (0,0)))∧Q1 (Below w.heap.size w wc))
 case first =>
  have H:=HC4.out
  clear HC4
  replace H:=Option.bind_eq_some_iff.mp H
  obtain ⟨t156,qjF,H⟩:=H
  replace H:(if t156=true then ((Qj.f (l1.length:Int) 1 10).bind fun t157=>(if t157=true then (QD.j0 k l1 l2 ((l2.length:Int)==(l1.length:Int)) Qa Qk Qd Y8 Y7) else (QD.j0 k l1 l2 false Qa Qk Qd Y8 Y7))) else (QD.j0 k l1 l2 false Qa Qk Qd Y8 Y7))=some (r1,r2):=H
  have A10:=Q1.mk qjF
  clear qjF
  by_cases c11:t156=true
  ·
   subst c11
   have H1:((Qj.f (l1.length:Int) 1 10).bind fun t157=>(if t157=true then (QD.j0 k l1 l2 ((l2.length:Int)==(l1.length:Int)) Qa Qk Qd Y8 Y7) else (QD.j0 k l1 l2 false Qa Qk Qd Y8 Y7)))=some (r1,r2):=by rw [if_pos rfl] at H;exact H
   clear H
   have H:=H1
   clear H1
   replace H:=Option.bind_eq_some_iff.mp H
   obtain ⟨t157,X6,H⟩:=H
   replace H:(if t157=true then (QD.j0 k l1 l2 ((l2.length:Int)==(l1.length:Int)) Qa Qk Qd Y8 Y7) else (QD.j0 k l1 l2 false Qa Qk Qd Y8 Y7))=some (r1,r2):=H
   have A12:=Q1.mk X6
   clear X6
   by_cases c13:t157=true
   ·
    subst c13
    have H1:(QD.j0 k l1 l2 ((l2.length:Int)==(l1.length:Int)) Qa Qk Qd Y8 Y7)=some (r1,r2):=by rw [if_pos rfl] at H;exact H
    clear H;have H:=H1;clear H1;have H':=Q1.mk H;clear H;have qB9:=Uo.out;have qCK:=ZA.out;have KR:w7.cell? ⟨YM,0,none⟩=some (.slice none 0 0):=(Q8 QY.out 0).trans rfl;have KS:w7.cell? ⟨YM,1,none⟩=some (.slice none 0 0):=(Q8 QY.out 1).trans rfl;have OO:w7.cell? ⟨YM,2,none⟩=some (.slice none 0 0):=(Q8 QY.out 2).trans rfl;have OP:w7.cell? ⟨YM,3,none⟩=some (.int .i64 0):=(Q8 QY.out 3).trans rfl;have OQ:w7.cell? ⟨YM,4,none⟩=some (.int .i64 0):=(Q8 QY.out 4).trans rfl;have KT:=Q9 QY.out 0;have KU:=Q9 QY.out 1;have OY:=Q9 QY.out 2;have OZ:=Q9 QY.out 3;have U0:=Q9 QY.out 4
    go_wp2_with (first|((with_reducible refine Qs (f:=76) rfl ?_);refine Yj (some 20) rfl rfl Try.func76 (by kernel_rfl) rfl #[.agg #[.slice Y3 Qa.length QH,.slice Y0 Qk.length QJ,.slice Y5 Qd.length QL,.int .i64 Y8,.int .i64 Y7]] rfl (by (try simp only [List.map_toArray,List.map_cons,List.map_nil]);first|done|rfl|(simp only [List.length_drop,List.length_take];rfl)) ?_;(with_reducible refine (Qn.calls k _ _ Qa _ _ Qk _ _ Qd Y8 Y7 true _ ?side1 ?side2 ?side3 ?side4 ?side5 ?side6 A10.out).mono ?_);(case side1=>exact Kd.C_below Jq.out (by repeat (first|(with_reducible first|exact HB.out|apply Q2|apply Q0|apply Q5|refine Q7 ?_ ZN.out|refine Q7 ?_ ZV.out)|exact HB.out)));(case side2=>exact JI.out);(case side3=>exact Kd.C_below JA.out (by repeat (first|(with_reducible first|exact HB.out|apply Q2|apply Q0|apply Q5|refine Q7 ?_ ZN.out|refine Q7 ?_ ZV.out)|exact HB.out)));(case side4=>exact JJ.out);(case side5=>exact Kd.C_below JC.out (by repeat (first|(with_reducible first|exact HB.out|apply Q2|apply Q0|apply Q5|refine Q7 ?_ ZN.out|refine Q7 ?_ ZV.out)|exact HB.out)));(case side6=>exact JK.out);rintro e w16 ⟨rfl,hb⟩;refine ⟨_,rfl,?_⟩;have n0_:=Q1.mk (Qf (g:=ZQ) (o:=.cells #[.slice Y3 Qa.length QH,.slice Y0 Qk.length QJ,.slice Y5 Qd.length QL,.int .i64 Y8,.int .i64 Y7] 39 (0,0)) (by (with_reducible repeat (first|refine Q4 ?_ _|refine Q6 ?_|refine Q3 ?_ _));refine Qm ?_ ZA.out _;(with_reducible repeat (first|refine Q4 ?_ _|refine Q6 ?_|refine Q3 ?_ _));refine Qm ?_ ZA.out _;(with_reducible repeat (first|refine Q4 ?_ _|refine Q6 ?_|refine Q3 ?_ _));refine Qm ?_ ZA.out _;(with_reducible repeat (first|refine Q4 ?_ _|refine Q6 ?_|refine Q3 ?_ _));refine Qm ?_ ZA.out _;(with_reducible repeat (first|refine Q4 ?_ _|refine Q6 ?_|refine Q3 ?_ _));refine Qm ?_ ZA.out _;(with_reducible repeat (first|refine Q4 ?_ _|refine Q6 ?_|refine Q3 ?_ _));exact YG.out) hb);have n1_:=Q1.mk (Qf (g:=YM) (o:=.cells #[.slice Y3 Qa.length QH,.slice Y0 Qk.length QJ,.slice Y5 Qd.length QL,.int .i64 Y8,.int .i64 Y7] 111 (0,0)) (by (with_reducible repeat (first|refine Q4 ?_ _|refine Q6 ?_|refine Q3 ?_ _));refine Qv (cs:=#[.slice Y3 Qa.length QH,.slice Y0 Qk.length QJ,.slice Y5 Qd.length QL,.int .i64 Y8,.int .i64 0]) ?_ 4 _ rfl;(with_reducible repeat (first|refine Q4 ?_ _|refine Q6 ?_|refine Q3 ?_ _));refine Qv (cs:=#[.slice Y3 Qa.length QH,.slice Y0 Qk.length QJ,.slice Y5 Qd.length QL,.int .i64 0,.int .i64 0]) ?_ 3 _ rfl;(with_reducible repeat (first|refine Q4 ?_ _|refine Q6 ?_|refine Q3 ?_ _));refine Qv (cs:=#[.slice Y3 Qa.length QH,.slice Y0 Qk.length QJ,.slice none 0 0,.int .i64 0,.int .i64 0]) ?_ 2 _ rfl;(with_reducible repeat (first|refine Q4 ?_ _|refine Q6 ?_|refine Q3 ?_ _));refine Qv (cs:=#[.slice Y3 Qa.length QH,.slice none 0 0,.slice none 0 0,.int .i64 0,.int .i64 0]) ?_ 1 _ rfl;(with_reducible repeat (first|refine Q4 ?_ _|refine Q6 ?_|refine Q3 ?_ _));refine Qv (cs:=#[.slice none 0 0,.slice none 0 0,.slice none 0 0,.int .i64 0,.int .i64 0]) ?_ 0 _ rfl;(with_reducible repeat (first|refine Q4 ?_ _|refine Q6 ?_|refine Q3 ?_ _));exact QY.out) hb);have n2_:=Q1.mk (Qh (by repeat (first|(with_reducible first|exact HB.out|apply Q2|apply Q0|apply Q5|refine Q7 ?_ ZN.out|refine Q7 ?_ ZV.out)|exact HB.out)) hb);clear YG QY HB;have YG:=n0_;have QY:=n1_;have HB:=n2_;clear n0_ n1_ n2_;(try clear hb);(try clear hb2);(try clear hk);(try clear hi))|(go_at_call 65;(with_reducible refine (Qj.calls (l1.length:Int) 1 10 true _ A12.out).mono ?_);rintro e w' ⟨rfl,⟨nd,rfl⟩⟩))
    go_meet
    case rel=>exact ⟨_,(((l2.length:Int)==(l1.length:Int))),(by first|rfl|(simp;done)|(simp [*];done)),H',⟨by first|omega|exact Nat.le_refl _⟩,⟨by (with_reducible repeat (first|refine Q4 ?_ _|refine Q6 ?_|refine Q3 ?_ _));exact YG.out⟩,⟨by (with_reducible repeat (first|refine Q4 ?_ _|refine Q6 ?_|refine Q3 ?_ _));exact QY.out⟩,⟨by repeat (first|(with_reducible first|exact HB.out|apply Q2|apply Q0|apply Q5|refine Q7 ?_ ZN.out|refine Q7 ?_ ZV.out)|exact HB.out)⟩⟩
   replace c13:=Bool.eq_false_iff.mpr c13
   subst c13
   have H1:(QD.j0 k l1 l2 false Qa Qk Qd Y8 Y7)=some (r1,r2):=by rw [if_neg (show ¬ (false=true) by decide)] at H;exact H
   clear H
   have H:=H1
   clear H1
   have H':=Q1.mk H
   clear H
   have qsO:=Uo.out
   have qs3:=ZA.out
   have OR:w7.cell? ⟨YM,0,none⟩=some (.slice none 0 0):=(Q8 QY.out 0).trans rfl
   have OS:w7.cell? ⟨YM,1,none⟩=some (.slice none 0 0):=(Q8 QY.out 1).trans rfl
   have OT:w7.cell? ⟨YM,2,none⟩=some (.slice none 0 0):=(Q8 QY.out 2).trans rfl
   have qba:w7.cell? ⟨YM,3,none⟩=some (.int .i64 0):=(Q8 QY.out 3).trans rfl
   have qbb:w7.cell? ⟨YM,4,none⟩=some (.int .i64 0):=(Q8 QY.out 4).trans rfl
   have U1:=Q9 QY.out 0
   have U2:=Q9 QY.out 1
   have U3:=Q9 QY.out 2
   have qbl:=Q9 QY.out 3
   have qbm:=Q9 QY.out 4
   go_wp2_with (first|((with_reducible refine Qs (f:=76) rfl ?_);refine Yj (some 20) rfl rfl Try.func76 (by kernel_rfl) rfl #[.agg #[.slice Y3 Qa.length QH,.slice Y0 Qk.length QJ,.slice Y5 Qd.length QL,.int .i64 Y8,.int .i64 Y7]] rfl (by (try simp only [List.map_toArray,List.map_cons,List.map_nil]);first|done|rfl|(simp only [List.length_drop,List.length_take];rfl)) ?_;(with_reducible refine (Qn.calls k _ _ Qa _ _ Qk _ _ Qd Y8 Y7 true _ ?side1 ?side2 ?side3 ?side4 ?side5 ?side6 A10.out).mono ?_);(case side1=>exact Kd.C_below Jq.out (by repeat (first|(with_reducible first|exact HB.out|apply Q2|apply Q0|apply Q5|refine Q7 ?_ ZN.out|refine Q7 ?_ ZV.out)|exact HB.out)));(case side2=>exact JI.out);(case side3=>exact Kd.C_below JA.out (by repeat (first|(with_reducible first|exact HB.out|apply Q2|apply Q0|apply Q5|refine Q7 ?_ ZN.out|refine Q7 ?_ ZV.out)|exact HB.out)));(case side4=>exact JJ.out);(case side5=>exact Kd.C_below JC.out (by repeat (first|(with_reducible first|exact HB.out|apply Q2|apply Q0|apply Q5|refine Q7 ?_ ZN.out|refine Q7 ?_ ZV.out)|exact HB.out)));(case side6=>exact JK.out);rintro e w19 ⟨rfl,hb⟩;refine ⟨_,rfl,?_⟩;have n0_:=Q1.mk (Qf (g:=ZQ) (o:=.cells #[.slice Y3 Qa.length QH,.slice Y0 Qk.length QJ,.slice Y5 Qd.length QL,.int .i64 Y8,.int .i64 Y7] 39 (0,0)) (by (with_reducible repeat (first|refine Q4 ?_ _|refine Q6 ?_|refine Q3 ?_ _));refine Qm ?_ ZA.out _;(with_reducible repeat (first|refine Q4 ?_ _|refine Q6 ?_|refine Q3 ?_ _));refine Qm ?_ ZA.out _;(with_reducible repeat (first|refine Q4 ?_ _|refine Q6 ?_|refine Q3 ?_ _));refine Qm ?_ ZA.out _;(with_reducible repeat (first|refine Q4 ?_ _|refine Q6 ?_|refine Q3 ?_ _));refine Qm ?_ ZA.out _;(with_reducible repeat (first|refine Q4 ?_ _|refine Q6 ?_|refine Q3 ?_ _));refine Qm ?_ ZA.out _;(with_reducible repeat (first|refine Q4 ?_ _|refine Q6 ?_|refine Q3 ?_ _));exact YG.out) hb);have n1_:=Q1.mk (Qf (g:=YM) (o:=.cells #[.slice Y3 Qa.length QH,.slice Y0 Qk.length QJ,.slice Y5 Qd.length QL,.int .i64 Y8,.int .i64 Y7] 111 (0,0)) (by (with_reducible repeat (first|refine Q4 ?_ _|refine Q6 ?_|refine Q3 ?_ _));refine Qv (cs:=#[.slice Y3 Qa.length QH,.slice Y0 Qk.length QJ,.slice Y5 Qd.length QL,.int .i64 Y8,.int .i64 0]) ?_ 4 _ rfl;(with_reducible repeat (first|refine Q4 ?_ _|refine Q6 ?_|refine Q3 ?_ _));refine Qv (cs:=#[.slice Y3 Qa.length QH,.slice Y0 Qk.length QJ,.slice Y5 Qd.length QL,.int .i64 0,.int .i64 0]) ?_ 3 _ rfl;(with_reducible repeat (first|refine Q4 ?_ _|refine Q6 ?_|refine Q3 ?_ _));refine Qv (cs:=#[.slice Y3 Qa.length QH,.slice Y0 Qk.length QJ,.slice none 0 0,.int .i64 0,.int .i64 0]) ?_ 2 _ rfl;(with_reducible repeat (first|refine Q4 ?_ _|refine Q6 ?_|refine Q3 ?_ _));refine Qv (cs:=#[.slice Y3 Qa.length QH,.slice none 0 0,.slice none 0 0,.int .i64 0,.int .i64 0]) ?_ 1 _ rfl;(with_reducible repeat (first|refine Q4 ?_ _|refine Q6 ?_|refine Q3 ?_ _));refine Qv (cs:=#[.slice none 0 0,.slice none 0 0,.slice none 0 0,.int .i64 0,.int .i64 0]) ?_ 0 _ rfl;(with_reducible repeat (first|refine Q4 ?_ _|refine Q6 ?_|refine Q3 ?_ _));exact QY.out) hb);have n2_:=Q1.mk (Qh (by repeat (first|(with_reducible first|exact HB.out|apply Q2|apply Q0|apply Q5|refine Q7 ?_ ZN.out|refine Q7 ?_ ZV.out)|exact HB.out)) hb);clear YG QY HB;have YG:=n0_;have QY:=n1_;have HB:=n2_;clear n0_ n1_ n2_;(try clear hb);(try clear hb2);(try clear hk);(try clear hi))|(go_at_call 65;(with_reducible refine (Qj.calls (l1.length:Int) 1 10 false _ A12.out).mono ?_);rintro e w' ⟨rfl,⟨nd,rfl⟩⟩))
   go_meet
   case rel=>exact ⟨_,(false),(by first|rfl|(simp;done)|(simp [*];done)),H',⟨by first|omega|exact Nat.le_refl _⟩,⟨by (with_reducible repeat (first|refine Q4 ?_ _|refine Q6 ?_|refine Q3 ?_ _));exact YG.out⟩,⟨by (with_reducible repeat (first|refine Q4 ?_ _|refine Q6 ?_|refine Q3 ?_ _));exact QY.out⟩,⟨by repeat (first|(with_reducible first|exact HB.out|apply Q2|apply Q0|apply Q5|refine Q7 ?_ ZN.out|refine Q7 ?_ ZV.out)|exact HB.out)⟩⟩
  replace c11:=Bool.eq_false_iff.mpr c11
  subst c11
  have H1:(QD.j0 k l1 l2 false Qa Qk Qd Y8 Y7)=some (r1,r2):=by rw [if_neg (show ¬ (false=true) by decide)] at H;exact H
  clear H
  have H:=H1
  clear H1
  have H':=Q1.mk H
  clear H
  have qsP:=Uo.out
  have qs4:=ZA.out
  have O9:w7.cell? ⟨YM,0,none⟩=some (.slice none 0 0):=(Q8 QY.out 0).trans rfl
  have Oa:w7.cell? ⟨YM,1,none⟩=some (.slice none 0 0):=(Q8 QY.out 1).trans rfl
  have Ob:w7.cell? ⟨YM,2,none⟩=some (.slice none 0 0):=(Q8 QY.out 2).trans rfl
  have qbc:w7.cell? ⟨YM,3,none⟩=some (.int .i64 0):=(Q8 QY.out 3).trans rfl
  have qbd:w7.cell? ⟨YM,4,none⟩=some (.int .i64 0):=(Q8 QY.out 4).trans rfl
  have Oe:=Q9 QY.out 0
  have Of:=Q9 QY.out 1
  have Og:=Q9 QY.out 2
  have qbn:=Q9 QY.out 3
  have qbo:=Q9 QY.out 4
  go_wp2_with (first|((with_reducible refine Qs (f:=76) rfl ?_);refine Yj (some 20) rfl rfl Try.func76 (by kernel_rfl) rfl #[.agg #[.slice Y3 Qa.length QH,.slice Y0 Qk.length QJ,.slice Y5 Qd.length QL,.int .i64 Y8,.int .i64 Y7]] rfl (by (try simp only [List.map_toArray,List.map_cons,List.map_nil]);first|done|rfl|(simp only [List.length_drop,List.length_take];rfl)) ?_;(with_reducible refine (Qn.calls k _ _ Qa _ _ Qk _ _ Qd Y8 Y7 false _ ?side1 ?side2 ?side3 ?side4 ?side5 ?side6 A10.out).mono ?_);(case side1=>exact Kd.C_below Jq.out (by repeat (first|(with_reducible first|exact HB.out|apply Q2|apply Q0|apply Q5|refine Q7 ?_ ZN.out|refine Q7 ?_ ZV.out)|exact HB.out)));(case side2=>exact JI.out);(case side3=>exact Kd.C_below JA.out (by repeat (first|(with_reducible first|exact HB.out|apply Q2|apply Q0|apply Q5|refine Q7 ?_ ZN.out|refine Q7 ?_ ZV.out)|exact HB.out)));(case side4=>exact JJ.out);(case side5=>exact Kd.C_below JC.out (by repeat (first|(with_reducible first|exact HB.out|apply Q2|apply Q0|apply Q5|refine Q7 ?_ ZN.out|refine Q7 ?_ ZV.out)|exact HB.out)));(case side6=>exact JK.out);rintro e w22 ⟨rfl,hb⟩;refine ⟨_,rfl,?_⟩;have n0_:=Q1.mk (Qf (g:=ZQ) (o:=.cells #[.slice Y3 Qa.length QH,.slice Y0 Qk.length QJ,.slice Y5 Qd.length QL,.int .i64 Y8,.int .i64 Y7] 39 (0,0)) (by (with_reducible repeat (first|refine Q4 ?_ _|refine Q6 ?_|refine Q3 ?_ _));refine Qm ?_ ZA.out _;(with_reducible repeat (first|refine Q4 ?_ _|refine Q6 ?_|refine Q3 ?_ _));refine Qm ?_ ZA.out _;(with_reducible repeat (first|refine Q4 ?_ _|refine Q6 ?_|refine Q3 ?_ _));refine Qm ?_ ZA.out _;(with_reducible repeat (first|refine Q4 ?_ _|refine Q6 ?_|refine Q3 ?_ _));refine Qm ?_ ZA.out _;(with_reducible repeat (first|refine Q4 ?_ _|refine Q6 ?_|refine Q3 ?_ _));refine Qm ?_ ZA.out _;(with_reducible repeat (first|refine Q4 ?_ _|refine Q6 ?_|refine Q3 ?_ _));exact YG.out) hb);have n1_:=Q1.mk (Qf (g:=YM) (o:=.cells #[.slice Y3 Qa.length QH,.slice Y0 Qk.length QJ,.slice Y5 Qd.length QL,.int .i64 Y8,.int .i64 Y7] 111 (0,0)) (by (with_reducible repeat (first|refine Q4 ?_ _|refine Q6 ?_|refine Q3 ?_ _));refine Qv (cs:=#[.slice Y3 Qa.length QH,.slice Y0 Qk.length QJ,.slice Y5 Qd.length QL,.int .i64 Y8,.int .i64 0]) ?_ 4 _ rfl;(with_reducible repeat (first|refine Q4 ?_ _|refine Q6 ?_|refine Q3 ?_ _));refine Qv (cs:=#[.slice Y3 Qa.length QH,.slice Y0 Qk.length QJ,.slice Y5 Qd.length QL,.int .i64 0,.int .i64 0]) ?_ 3 _ rfl;(with_reducible repeat (first|refine Q4 ?_ _|refine Q6 ?_|refine Q3 ?_ _));refine Qv (cs:=#[.slice Y3 Qa.length QH,.slice Y0 Qk.length QJ,.slice none 0 0,.int .i64 0,.int .i64 0]) ?_ 2 _ rfl;(with_reducible repeat (first|refine Q4 ?_ _|refine Q6 ?_|refine Q3 ?_ _));refine Qv (cs:=#[.slice Y3 Qa.length QH,.slice none 0 0,.slice none 0 0,.int .i64 0,.int .i64 0]) ?_ 1 _ rfl;(with_reducible repeat (first|refine Q4 ?_ _|refine Q6 ?_|refine Q3 ?_ _));refine Qv (cs:=#[.slice none 0 0,.slice none 0 0,.slice none 0 0,.int .i64 0,.int .i64 0]) ?_ 0 _ rfl;(with_reducible repeat (first|refine Q4 ?_ _|refine Q6 ?_|refine Q3 ?_ _));exact QY.out) hb);have n2_:=Q1.mk (Qh (by repeat (first|(with_reducible first|exact HB.out|apply Q2|apply Q0|apply Q5|refine Q7 ?_ ZN.out|refine Q7 ?_ ZV.out)|exact HB.out)) hb);clear YG QY HB;have YG:=n0_;have QY:=n1_;have HB:=n2_;clear n0_ n1_ n2_;(try clear hb);(try clear hb2);(try clear hk);(try clear hi)))
  go_meet
  case rel=>exact ⟨_,(false),(by first|rfl|(simp;done)|(simp [*];done)),H',⟨by first|omega|exact Nat.le_refl _⟩,⟨by (with_reducible repeat (first|refine Q4 ?_ _|refine Q6 ?_|refine Q3 ?_ _));exact YG.out⟩,⟨by (with_reducible repeat (first|refine Q4 ?_ _|refine Q6 ?_|refine Q3 ?_ _));exact QY.out⟩,⟨by repeat (first|(with_reducible first|exact HB.out|apply Q2|apply Q0|apply Q5|refine Q7 ?_ ZN.out|refine Q7 ?_ ZV.out)|exact HB.out)⟩⟩
 case rest =>
  clear HC4
  try clear c1
  try clear c2
  try clear p2
  try clear c7
  try clear c8
  try clear c11
  try clear c13
  try clear c14
  try clear c17
  try clear c20
  try clear KR
  try clear KS
  try clear OO
  try clear OP
  try clear OQ
  try clear OR
  try clear OS
  try clear OT
  try clear qba
  try clear qbb
  try clear O9
  try clear Oa
  try clear Ob
  try clear qbc
  try clear qbd
  try clear WQ
  try clear WR
  try clear qap
  try clear qdG
  try clear qdH
  try clear K1
  try clear K2
  try clear Ka
  try clear qdI
  try clear qdJ
  try clear KT
  try clear KU
  try clear OY
  try clear OZ
  try clear U0
  try clear U1
  try clear U2
  try clear U3
  try clear qbl
  try clear qbm
  try clear Oe
  try clear Of
  try clear Og
  try clear qbn
  try clear qbo
  try clear WS
  try clear WT
  try clear qaq
  try clear qdS
  try clear qdT
  try clear Ke
  try clear Kf
  try clear Kg
  try clear qdU
  try clear qdV
  obtain ⟨kq,UR,rfl,HA,HJ3,YG,QY,HB⟩:=hcut
  cases kq with
  | zero=>exact absurd HA.out (by simp [QD.j0])
  | succ kj3 =>
   have H:=HA.out
   clear HA
   simp only [QD.j0] at H
   have H':=Q1.mk H
   clear H
   go_wp2
   go_loopg [9,10] kj3 (fun kq v9 v10 w' => ∃ (X4:Bool) (YL:Int),v9 = .bool X4∧v10 = .int .i64 YL∧Q1 (QD.l0 kq l1 l2 X4 YL Qa Qk Qd Y8 Y7=some (r1,r2))∧Q1 (kq≤kj3)∧Q1 (w'.heap[ZQ]? = some (.cells #[(.slice Y3 Qa.length QH),(.slice Y0 Qk.length QJ),(.slice Y5 Qd.length QL),.int .i64 Y8,.int .i64 Y7] 39 (0,0)))∧Q1 (w'.heap[YM]? = some (.cells #[(.slice Y3 Qa.length QH),(.slice Y0 Qk.length QJ),(.slice Y5 Qd.length QL),.int .i64 Y8,.int .i64 Y7] 111 (0,0)))∧Q1 (Below w.heap.size w w'))
   case atStart=>exact ⟨(UR),(0),(by first|rfl|(simp;done)|(simp [*];done)),(by first|rfl|(simp;done)|(simp [*];done)),H',⟨Nat.le_refl _⟩,⟨by (with_reducible repeat (first|refine Q4 ?_ _|refine Q6 ?_|refine Q3 ?_ _));exact YG.out⟩,⟨by (with_reducible repeat (first|refine Q4 ?_ _|refine Q6 ?_|refine Q3 ?_ _));exact QY.out⟩,⟨by repeat (first|(with_reducible first|exact HB.out|apply Q2|apply Q0|apply Q5|refine Q7 ?_ ZN.out|refine Q7 ?_ ZV.out)|exact HB.out)⟩⟩
   case round =>
    clear H';(try clear c1);(try clear c2);(try clear p2);(try clear c7);(try clear c8);(try clear c11);(try clear c13);(try clear c14);(try clear c17);(try clear c20);(try clear KR);(try clear KS);(try clear OO);(try clear OP);(try clear OQ);(try clear OR);(try clear OS);(try clear OT);(try clear qba);(try clear qbb);(try clear O9);(try clear Oa);(try clear Ob);(try clear qbc);(try clear qbd);(try clear WQ);(try clear WR);(try clear qap);(try clear qdG);(try clear qdH);(try clear K1);(try clear K2);(try clear Ka);(try clear qdI);(try clear qdJ);(try clear KT);(try clear KU);(try clear OY);(try clear OZ);(try clear U0);(try clear U1);(try clear U2);(try clear U3);(try clear qbl);(try clear qbm);(try clear Oe);(try clear Of);(try clear Og);(try clear qbn);(try clear qbo);(try clear WS);(try clear WT);(try clear qaq);(try clear qdS);(try clear qdT);(try clear Ke);(try clear Kf);(try clear Kg);(try clear qdU);(try clear qdV);(try clear p2);obtain ⟨X4,YL,rfl,rfl,HA,HK2,YG,QY,HB⟩:=hrel
    cases gk with
    | zero=>exact absurd HA.out (by simp [QD.l0])
    | succ k2 =>
     have H:=HA.out;clear HA;simp only [QD.l0] at H;have qgn:=Q1.mk H;clear H
     go_upto_region 4 with (fail)
     go_cut [39] (fun v39 wc => ∃ (kq:Nat) (qeD:Bool),v39 = .bool qeD∧Q1 (QD.j2 kq l1 l2 X4 YL qeD Qa Qk Qd Y8 Y7=some (r1,r2))∧Q1 (kq≤k2)∧Q1 (wc.heap[ZQ]? = some (.cells #[(.slice Y3 Qa.length QH),(.slice Y0 Qk.length QJ),(.slice Y5 Qd.length QL),.int .i64 Y8,.int .i64 Y7] 39 (0,0)))∧Q1 (wc.heap[YM]? = some (.cells #[(.slice Y3 Qa.length QH),(.slice Y0 Qk.length QJ),(.slice Y5 Qd.length QL),.int .i64 Y8,.int .i64 Y7] 111 (0,0)))∧Q1 (Below w.heap.size w wc))
     case first =>
      have H:=qgn.out;clear qgn
      by_cases c24:X4=true
      ·
       subst c24
       have H1:(QD.j2 k2 l1 l2 true YL (decide (YL<(l1.length:Int))) Qa Qk Qd Y8 Y7)=some (r1,r2):=by rw [if_pos rfl] at H;exact H
       clear H;have H:=H1;clear H1;have H':=Q1.mk H;clear H
       go_wp2
       go_meet
       case rel=>exact ⟨_,(decide (YL<(l1.length:Int))),(by first|rfl|(simp;done)|(simp [*];done)),H',⟨by have:=HJ3.out;have:=HK2.out;first|omega|exact Nat.le_refl _⟩,⟨by (with_reducible repeat (first|refine Q4 ?_ _|refine Q6 ?_|refine Q3 ?_ _));exact YG.out⟩,⟨by (with_reducible repeat (first|refine Q4 ?_ _|refine Q6 ?_|refine Q3 ?_ _));exact QY.out⟩,⟨by repeat (first|(with_reducible first|exact HB.out|apply Q2|apply Q0|apply Q5|refine Q7 ?_ ZN.out|refine Q7 ?_ ZV.out)|exact HB.out)⟩⟩
      replace c24:=Bool.eq_false_iff.mpr c24;subst c24
      have H1:(QD.j2 k2 l1 l2 false YL false Qa Qk Qd Y8 Y7)=some (r1,r2):=by rw [if_neg (show ¬ (false=true) by decide)] at H;exact H
      clear H;have H:=H1;clear H1;have H':=Q1.mk H;clear H
      go_wp2
      go_meet
      case rel=>exact ⟨_,(false),(by first|rfl|(simp;done)|(simp [*];done)),H',⟨by have:=HJ3.out;have:=HK2.out;first|omega|exact Nat.le_refl _⟩,⟨by (with_reducible repeat (first|refine Q4 ?_ _|refine Q6 ?_|refine Q3 ?_ _));exact YG.out⟩,⟨by (with_reducible repeat (first|refine Q4 ?_ _|refine Q6 ?_|refine Q3 ?_ _));exact QY.out⟩,⟨by repeat (first|(with_reducible first|exact HB.out|apply Q2|apply Q0|apply Q5|refine Q7 ?_ ZN.out|refine Q7 ?_ ZV.out)|exact HB.out)⟩⟩
     case rest =>
      clear qgn;(try clear c1);(try clear c2);(try clear p2);(try clear c7);(try clear c8);(try clear c11);(try clear c13);(try clear c14);(try clear c17);(try clear c20);(try clear c24);(try clear KR);(try clear KS);(try clear OO);(try clear OP);(try clear OQ);(try clear OR);(try clear OS);(try clear OT);(try clear qba);(try clear qbb);(try clear O9);(try clear Oa);(try clear Ob);(try clear qbc);(try clear qbd);(try clear WQ);(try clear WR);(try clear qap);(try clear qdG);(try clear qdH);(try clear K1);(try clear K2);(try clear Ka);(try clear qdI);(try clear qdJ);(try clear KT);(try clear KU);(try clear OY);(try clear OZ);(try clear U0);(try clear U1);(try clear U2);(try clear U3);(try clear qbl);(try clear qbm);(try clear Oe);(try clear Of);(try clear Og);(try clear qbn);(try clear qbo);(try clear WS);(try clear WT);(try clear qaq);(try clear qdS);(try clear qdT);(try clear Ke);(try clear Kf);(try clear Kg);(try clear qdU);(try clear qdV);(try clear p2);obtain ⟨kq,qeD,rfl,HA,Uc,YG,QY,HB⟩:=hcut
      cases kq with
      | zero=>exact absurd HA.out (by simp [QD.j2])
      | succ UW =>
       have H:=HA.out;clear HA;simp only [QD.j2] at H
       by_cases c25:qeD=true
       ·
        subst c25
        have H1:(if 0≤YL then (if YL<(l1.length:Int) then ((Qj.f (rd l1 YL) 0 100000000).bind fun t159=>(if t159=true then (if YL<(l2.length:Int) then ((Qj.f (rd l2 YL) 0 100000).bind fun qci=>(QD.l0 UW l1 l2 qci (wrap64 (YL+1)) Qa Qk Qd Y8 Y7)) else (none)) else (QD.l0 UW l1 l2 false (wrap64 (YL+1)) Qa Qk Qd Y8 Y7))) else (none)) else (none))=some (r1,r2):=by rw [if_pos rfl] at H;exact H
        clear H;have H:=H1;clear H1
        by_cases c26:0≤YL
        ·
         rw [if_pos c26] at H;have c26b0:decide (0≤YL)=true:=decide_eq_true c26;clear c26
         by_cases c27:YL<(l1.length:Int)
         ·
          rw [if_pos c27] at H;have c27b0:decide (YL<(l1.length:Int))=true:=decide_eq_true c27;clear c27;replace H:=Option.bind_eq_some_iff.mp H;obtain ⟨t159,qqn,H⟩:=H;replace H:(if t159=true then (if YL<(l2.length:Int) then ((Qj.f (rd l2 YL) 0 100000).bind fun qci=>(QD.l0 UW l1 l2 qci (wrap64 (YL+1)) Qa Qk Qd Y8 Y7)) else (none)) else (QD.l0 UW l1 l2 false (wrap64 (YL+1)) Qa Qk Qd Y8 Y7))=some (r1,r2):=H;have A28:=Q1.mk qqn;clear qqn
          by_cases c29:t159=true
          ·
           subst c29
           have H1:(if YL<(l2.length:Int) then ((Qj.f (rd l2 YL) 0 100000).bind fun qci=>(QD.l0 UW l1 l2 qci (wrap64 (YL+1)) Qa Qk Qd Y8 Y7)) else (none))=some (r1,r2):=by rw [if_pos rfl] at H;exact H
           clear H;have H:=H1;clear H1
           by_cases c30:YL<(l2.length:Int)
           ·
            rw [if_pos c30] at H;have c30b0:decide (YL<(l2.length:Int))=true:=decide_eq_true c30;clear c30;replace H:=Option.bind_eq_some_iff.mp H;obtain ⟨qci,qqo,H⟩:=H;replace H:(QD.l0 UW l1 l2 qci (wrap64 (YL+1)) Qa Qk Qd Y8 Y7)=some (r1,r2):=H;have A31:=Q1.mk qqo;clear qqo;have H':=Q1.mk H;clear H;have qfJ:0≤(YL:Int):=of_decide_eq_true (by first|(with_reducible assumption)|assumption);have qfL:YL<(l1.length:Int):=of_decide_eq_true (by first|(with_reducible assumption)|assumption);obtain ⟨qq8,qpf,U4⟩:=Kd.at_int HR1.out YL qfJ qfL;cases qpf;replace U4:=(HB.out.cell (World.block_lt_of_cell? w _ U4)).trans U4;replace qfJ:=eq_true qfJ;replace qfL:=eq_true qfL
            go_wp2_with (first|((with_reducible refine Qs (f:=65) rfl ?_);refine Yj (some 46) rfl rfl Try.func65 (by kernel_rfl) rfl #[.int .i64 (rd l1 YL),.int .i64 0,.int .i64 100000000] rfl (by (try simp only [List.map_toArray,List.map_cons,List.map_nil]);first|done|rfl|(simp only [List.length_drop,List.length_take];rfl)) ?_;(with_reducible refine (Qj.calls (rd l1 YL) 0 100000000 true _ A28.out).mono ?_);rintro e w' ⟨rfl,⟨nd,rfl⟩⟩;refine ⟨_,rfl,?_⟩;have qno:0≤(YL:Int):=of_decide_eq_true (by first|(with_reducible assumption)|assumption);have qnw:YL<(l2.length:Int):=of_decide_eq_true (by first|(with_reducible assumption)|assumption);obtain ⟨qBB,qzY,qbB⟩:=Kd.at_int HR2.out YL qno qnw;cases qzY;replace qbB:=(HB.out.cell (World.block_lt_of_cell? w _ qbB)).trans qbB;replace qno:=eq_true qno;replace qnw:=eq_true qnw)|(go_at_call 65;(with_reducible refine (Qj.calls (rd l2 YL) 0 100000 qci _ A31.out).mono ?_);rintro e w' ⟨rfl,⟨nd,rfl⟩⟩))
            go_roundg UW
            case measure=>have:=HJ3.out;have:=HK2.out;have:=Uc.out;omega
            case rel=>exact ⟨(qci),(wrap64 (YL+1)),(by first|rfl|(simp;done)|(simp [*];done)),(by first|rfl|(simp;done)|(simp [*];done)),H',⟨by have:=HJ3.out;have:=HK2.out;have:=Uc.out;omega⟩,⟨by (with_reducible repeat (first|refine Q4 ?_ _|refine Q6 ?_|refine Q3 ?_ _));exact YG.out⟩,⟨by (with_reducible repeat (first|refine Q4 ?_ _|refine Q6 ?_|refine Q3 ?_ _));exact QY.out⟩,⟨by repeat (first|(with_reducible first|exact HB.out|apply Q2|apply Q0|apply Q5|refine Q7 ?_ ZN.out|refine Q7 ?_ ZV.out)|exact HB.out)⟩⟩
           rw [if_neg c30] at H
           exact absurd H (by simp)
          replace c29:=Bool.eq_false_iff.mpr c29;subst c29
          have H1:(QD.l0 UW l1 l2 false (wrap64 (YL+1)) Qa Qk Qd Y8 Y7)=some (r1,r2):=by rw [if_neg (show ¬ (false=true) by decide)] at H;exact H
          clear H;have H:=H1;clear H1;have H':=Q1.mk H;clear H;have qfJ:0≤(YL:Int):=of_decide_eq_true (by first|(with_reducible assumption)|assumption);have qfL:YL<(l1.length:Int):=of_decide_eq_true (by first|(with_reducible assumption)|assumption);obtain ⟨qq8,qpf,U4⟩:=Kd.at_int HR1.out YL qfJ qfL;cases qpf;replace U4:=(HB.out.cell (World.block_lt_of_cell? w _ U4)).trans U4;replace qfJ:=eq_true qfJ;replace qfL:=eq_true qfL
          go_wp2_with (first|((with_reducible refine Qs (f:=65) rfl ?_);refine Yj (some 46) rfl rfl Try.func65 (by kernel_rfl) rfl #[.int .i64 (rd l1 YL),.int .i64 0,.int .i64 100000000] rfl (by (try simp only [List.map_toArray,List.map_cons,List.map_nil]);first|done|rfl|(simp only [List.length_drop,List.length_take];rfl)) ?_;(with_reducible refine (Qj.calls (rd l1 YL) 0 100000000 false _ A28.out).mono ?_);rintro e w' ⟨rfl,⟨nd,rfl⟩⟩;refine ⟨_,rfl,?_⟩))
          go_roundg UW
          case measure=>have:=HJ3.out;have:=HK2.out;have:=Uc.out;omega
          case rel=>exact ⟨(false),(wrap64 (YL+1)),(by first|rfl|(simp;done)|(simp [*];done)),(by first|rfl|(simp;done)|(simp [*];done)),H',⟨by have:=HJ3.out;have:=HK2.out;have:=Uc.out;omega⟩,⟨by (with_reducible repeat (first|refine Q4 ?_ _|refine Q6 ?_|refine Q3 ?_ _));exact YG.out⟩,⟨by (with_reducible repeat (first|refine Q4 ?_ _|refine Q6 ?_|refine Q3 ?_ _));exact QY.out⟩,⟨by repeat (first|(with_reducible first|exact HB.out|apply Q2|apply Q0|apply Q5|refine Q7 ?_ ZN.out|refine Q7 ?_ ZV.out)|exact HB.out)⟩⟩
         rw [if_neg c27] at H
         exact absurd H (by simp)
        rw [if_neg c26] at H
        exact absurd H (by simp)
       replace c25:=Bool.eq_false_iff.mpr c25;subst c25
       have H1:(if X4=true then ((Z3.f Qa Qk Qd Y8 Y7).bind fun Kj=>(QD.l1 UW l1 l2 ([]:List Int) (l1.length:Int) 0 Qa Qk Qd Y8 Y7 Kj.1 Kj.2.1 Kj.2.2.1 Kj.2.2.2.1 Kj.2.2.2.2.1 Kj.2.2.2.2.2)) else (some (([]:List Int),92)))=some (r1,r2):=by rw [if_neg (show ¬ (false=true) by decide)] at H;exact H
       clear H;have H:=H1;clear H1
       by_cases c32:X4=true
       ·
        subst c32
        have H1:((Z3.f Qa Qk Qd Y8 Y7).bind fun Kj=>(QD.l1 UW l1 l2 ([]:List Int) (l1.length:Int) 0 Qa Qk Qd Y8 Y7 Kj.1 Kj.2.1 Kj.2.2.1 Kj.2.2.2.1 Kj.2.2.2.2.1 Kj.2.2.2.2.2))=some (r1,r2):=by rw [if_pos rfl] at H;exact H
        clear H;have H:=H1;clear H1;replace H:=Option.bind_eq_some_iff.mp H;obtain ⟨⟨t162,qhl,t164,qk6,qnG,t167⟩,qqp,H⟩:=H;replace H:(QD.l1 UW l1 l2 ([]:List Int) (l1.length:Int) 0 Qa Qk Qd Y8 Y7 t162 qhl t164 qk6 qnG t167)=some (r1,r2):=H;have A33:=Q1.mk qqp;clear qqp;have H':=Q1.mk H;clear H;have qCe:=Uo.out;have qCP:=ZA.out;have ql1:wc.cell? ⟨YM,0,none⟩=some (.slice Y3 Qa.length QH):=(Q8 QY.out 0).trans rfl;have ql2:wc.cell? ⟨YM,1,none⟩=some (.slice Y0 Qk.length QJ):=(Q8 QY.out 1).trans rfl;have ql3:wc.cell? ⟨YM,2,none⟩=some (.slice Y5 Qd.length QL):=(Q8 QY.out 2).trans rfl;have ql4:wc.cell? ⟨YM,3,none⟩=some (.int .i64 Y8):=(Q8 QY.out 3).trans rfl;have ql5:wc.cell? ⟨YM,4,none⟩=some (.int .i64 Y7):=(Q8 QY.out 4).trans rfl;have qmD:=Q9 QY.out 0;have qmE:=Q9 QY.out 1;have qmF:=Q9 QY.out 2;have qmG:=Q9 QY.out 3;have qmH:=Q9 QY.out 4
        go_wp2_with (first|((with_reducible refine Qs (f:=78) rfl ?_);refine Yj (some 57) rfl rfl Try.func78 (by kernel_rfl) rfl #[.agg #[.slice Y3 Qa.length QH,.slice Y0 Qk.length QJ,.slice Y5 Qd.length QL,.int .i64 Y8,.int .i64 Y7]] rfl (by (try simp only [List.map_toArray,List.map_cons,List.map_nil]);first|done|rfl|(simp only [List.length_drop,List.length_take];rfl)) ?_;(with_reducible refine (Z3.calls _ _ Qa _ _ Qk _ _ Qd Y8 Y7 t162 qhl t164 qk6 qnG t167 _ ?side1 ?side2 ?side3 ?side4 ?side5 ?side6 A33.out).mono ?_);(case side1=>repeat (first|exact (Kd.C_below Jq.out HB.out)|(with_reducible refine Kd.C_alloc ?_ _)|(with_reducible refine Kd.C_drewN ?_ _)|(with_reducible refine Kd.C_drew ?_)));(case side2=>exact JI.out);(case side3=>repeat (first|exact (Kd.C_below JA.out HB.out)|(with_reducible refine Kd.C_alloc ?_ _)|(with_reducible refine Kd.C_drewN ?_ _)|(with_reducible refine Kd.C_drew ?_)));(case side4=>exact JJ.out);(case side5=>repeat (first|exact (Kd.C_below JC.out HB.out)|(with_reducible refine Kd.C_alloc ?_ _)|(with_reducible refine Kd.C_drewN ?_ _)|(with_reducible refine Kd.C_drew ?_)));(case side6=>exact JK.out);rintro e w36 ⟨rfl,hb⟩;refine ⟨_,rfl,?_⟩;have n0_:=Q1.mk (Qf (g:=ZQ) (by (with_reducible repeat (first|refine Q4 ?_ _|refine Q6 ?_|refine Q3 ?_ _));exact YG.out) hb);have n1_:=Q1.mk (Qf (g:=YM) (by (with_reducible repeat (first|refine Q4 ?_ _|refine Q6 ?_|refine Q3 ?_ _));exact QY.out) hb);have n2_:=Q1.mk (Qh (by repeat (first|(with_reducible first|exact HB.out|apply Q2|apply Q0|apply Q5|refine Q7 ?_ ZN.out|refine Q7 ?_ ZV.out)|exact HB.out)) hb);clear YG QY HB;have YG:=n0_;have QY:=n1_;have HB:=n2_;clear n0_ n1_ n2_;(try clear hb);(try clear hb2);(try clear hk);(try clear hi))|((with_reducible refine QO (N:=12) rfl ?_);(try (refine Gn (by rfl) ?_;dsimp only));refine Yg ?hg (N:=12) ?hd (cs:=#[.int .i64 0,.int .i64 0,.int .i64 0,.int .i64 0,.int .i64 0,.int .i64 0]) (t:=115) ?hr ?_;(case hd=>rfl);(case hg=>rfl);(case hr=>first|(go_simp;done)|(go_simp;rfl));intro Yl hg w37 hbox hb;have n0_:=Q1.mk (Qf (g:=ZQ) (by (with_reducible repeat (first|refine Q4 ?_ _|refine Q6 ?_|refine Q3 ?_ _));exact YG.out) hb);have n1_:=Q1.mk (Qf (g:=YM) (by (with_reducible repeat (first|refine Q4 ?_ _|refine Q6 ?_|refine Q3 ?_ _));exact QY.out) hb);have n2_:=Q1.mk (Qh (by repeat (first|(with_reducible first|exact HB.out|apply Q2|apply Q0|apply Q5|refine Q7 ?_ ZN.out|refine Q7 ?_ ZV.out)|exact HB.out)) hb);have n3_:=Q1.mk (hbox);have n4_:=Q1.mk ((by rw [hg];exact (Qe (by repeat (first|(with_reducible first|exact HB.out|apply Q2|apply Q0|apply Q5|refine Q7 ?_ ZN.out|refine Q7 ?_ ZV.out)|exact HB.out))):w.heap.size≤Yl));have n5_:=n4_;have n6_:=Q1.mk ((by rw [hg];exact Nat.ne_of_lt (QK (g:=ZQ) (by (with_reducible repeat (first|refine Q4 ?_ _|refine Q6 ?_|refine Q3 ?_ _));exact YG.out)):ZQ≠Yl));have n7_:=Q1.mk (n6_.out.symm);have n8_:=Q1.mk ((by rw [hg];exact Nat.ne_of_lt (QK (g:=YM) (by (with_reducible repeat (first|refine Q4 ?_ _|refine Q6 ?_|refine Q3 ?_ _));exact QY.out)):YM≠Yl));have n9_:=Q1.mk (n8_.out.symm);clear YG QY HB;have YG:=n0_;have QY:=n1_;have HB:=n2_;have Yq:=n3_;have qBp:=n4_;have O0:=n5_;have ZI:=n6_;have KB:=n7_;have ZJ:=n8_;have KC:=n9_;clear n0_ n1_ n2_ n3_ n4_ n5_ n6_ n7_ n8_ n9_ hb hbox hg;have qCg:=KB.out;have qCR:=ZI.out;have qoG:=KC.out;have qoH:=ZJ.out;have qbe:w37.cell? ⟨Yl,0,none⟩=some (.int .i64 0):=(Q8 Yq.out 0).trans rfl;have qbf:w37.cell? ⟨Yl,1,none⟩=some (.int .i64 0):=(Q8 Yq.out 1).trans rfl;have qbg:w37.cell? ⟨Yl,2,none⟩=some (.int .i64 0):=(Q8 Yq.out 2).trans rfl;have qmc:w37.cell? ⟨Yl,3,none⟩=some (.int .i64 0):=(Q8 Yq.out 3).trans rfl;have qmd:w37.cell? ⟨Yl,4,none⟩=some (.int .i64 0):=(Q8 Yq.out 4).trans rfl;have qme:w37.cell? ⟨Yl,5,none⟩=some (.int .i64 0):=(Q8 Yq.out 5).trans rfl;have qbp:=Q9 Yq.out 0;have qbq:=Q9 Yq.out 1;have qbr:=Q9 Yq.out 2;have qmO:=Q9 Yq.out 3;have qmP:=Q9 Yq.out 4;have qmQ:=Q9 Yq.out 5))
        go_loopg [13,60] UW (fun kq v13 v60 w' => ∃ (G0:List Int) (J0:Int) (Zk:Int) (Zb:Int) (Z8:Int) (Z4:Int) (YZ:Int) (YU:Int),v60 = .int .i64 J0∧Q1 (QD.l1 kq l1 l2 G0 (l1.length:Int) J0 Qa Qk Qd Y8 Y7 Zk Zb Z8 Z4 YZ YU=some (r1,r2))∧Q1 (kq≤UW)∧Q1 (Kd.R (Kd.int .i64) 3 w' w.heap.size (fun k_=>(w.heap.size≤k_)) v13 G0)∧Q1 (w'.heap[ZQ]? = some (.cells #[(.slice Y3 Qa.length QH),(.slice Y0 Qk.length QJ),(.slice Y5 Qd.length QL),.int .i64 Y8,.int .i64 Y7] 39 (0,0)))∧Q1 (w'.heap[YM]? = some (.cells #[(.slice Y3 Qa.length QH),(.slice Y0 Qk.length QJ),(.slice Y5 Qd.length QL),.int .i64 Y8,.int .i64 Y7] 111 (0,0)))∧Q1 (w'.heap[Yl]? = some (.cells #[.int .i64 Zk,.int .i64 Zb,.int .i64 Z8,.int .i64 Z4,.int .i64 YZ,.int .i64 YU] 115 (0,0)))∧Q1 (Below w.heap.size w w'))
        case atStart=>exact ⟨(([]:List Int)),(0),(t162),(qhl),(t164),(qk6),(qnG),(t167),(by first|rfl|(simp;done)|(simp [*];done)),H',⟨Nat.le_refl _⟩,⟨by first|exact Kd.R_nil _ _ _ _ _|exact Kd.N_nil _ _ _ _ _|exact Kd.V_nil _ _ _ _ _|exact Kd.Q_nil _ _ _ _ _|exact Kd.S_nil _ _ _ _ _⟩,⟨by (with_reducible repeat (first|refine Q4 ?_ _|refine Q6 ?_|refine Q3 ?_ _));refine Qm ?_ ZI.out _;(with_reducible repeat (first|refine Q4 ?_ _|refine Q6 ?_|refine Q3 ?_ _));refine Qm ?_ ZI.out _;(with_reducible repeat (first|refine Q4 ?_ _|refine Q6 ?_|refine Q3 ?_ _));refine Qm ?_ ZI.out _;(with_reducible repeat (first|refine Q4 ?_ _|refine Q6 ?_|refine Q3 ?_ _));refine Qm ?_ ZI.out _;(with_reducible repeat (first|refine Q4 ?_ _|refine Q6 ?_|refine Q3 ?_ _));refine Qm ?_ ZI.out _;(with_reducible repeat (first|refine Q4 ?_ _|refine Q6 ?_|refine Q3 ?_ _));refine Qm ?_ ZI.out _;(with_reducible repeat (first|refine Q4 ?_ _|refine Q6 ?_|refine Q3 ?_ _));exact YG.out⟩,⟨by (with_reducible repeat (first|refine Q4 ?_ _|refine Q6 ?_|refine Q3 ?_ _));refine Qm ?_ ZJ.out _;(with_reducible repeat (first|refine Q4 ?_ _|refine Q6 ?_|refine Q3 ?_ _));refine Qm ?_ ZJ.out _;(with_reducible repeat (first|refine Q4 ?_ _|refine Q6 ?_|refine Q3 ?_ _));refine Qm ?_ ZJ.out _;(with_reducible repeat (first|refine Q4 ?_ _|refine Q6 ?_|refine Q3 ?_ _));refine Qm ?_ ZJ.out _;(with_reducible repeat (first|refine Q4 ?_ _|refine Q6 ?_|refine Q3 ?_ _));refine Qm ?_ ZJ.out _;(with_reducible repeat (first|refine Q4 ?_ _|refine Q6 ?_|refine Q3 ?_ _));refine Qm ?_ ZJ.out _;(with_reducible repeat (first|refine Q4 ?_ _|refine Q6 ?_|refine Q3 ?_ _));exact QY.out⟩,⟨by (with_reducible repeat (first|refine Q4 ?_ _|refine Q6 ?_|refine Q3 ?_ _));refine Qv (cs:=#[.int .i64 t162,.int .i64 qhl,.int .i64 t164,.int .i64 qk6,.int .i64 qnG,.int .i64 0]) ?_ 5 _ rfl;(with_reducible repeat (first|refine Q4 ?_ _|refine Q6 ?_|refine Q3 ?_ _));refine Qv (cs:=#[.int .i64 t162,.int .i64 qhl,.int .i64 t164,.int .i64 qk6,.int .i64 0,.int .i64 0]) ?_ 4 _ rfl;(with_reducible repeat (first|refine Q4 ?_ _|refine Q6 ?_|refine Q3 ?_ _));refine Qv (cs:=#[.int .i64 t162,.int .i64 qhl,.int .i64 t164,.int .i64 0,.int .i64 0,.int .i64 0]) ?_ 3 _ rfl;(with_reducible repeat (first|refine Q4 ?_ _|refine Q6 ?_|refine Q3 ?_ _));refine Qv (cs:=#[.int .i64 t162,.int .i64 qhl,.int .i64 0,.int .i64 0,.int .i64 0,.int .i64 0]) ?_ 2 _ rfl;(with_reducible repeat (first|refine Q4 ?_ _|refine Q6 ?_|refine Q3 ?_ _));refine Qv (cs:=#[.int .i64 t162,.int .i64 0,.int .i64 0,.int .i64 0,.int .i64 0,.int .i64 0]) ?_ 1 _ rfl;(with_reducible repeat (first|refine Q4 ?_ _|refine Q6 ?_|refine Q3 ?_ _));refine Qv (cs:=#[.int .i64 0,.int .i64 0,.int .i64 0,.int .i64 0,.int .i64 0,.int .i64 0]) ?_ 0 _ rfl;(with_reducible repeat (first|refine Q4 ?_ _|refine Q6 ?_|refine Q3 ?_ _));exact Yq.out⟩,⟨by repeat (first|(with_reducible first|exact HB.out|apply Q2|apply Q0|apply Q5|refine Q7 ?_ ZN.out|refine Q7 ?_ ZV.out|refine Q7 ?_ O0.out)|exact HB.out)⟩⟩
        case round =>
         clear H';(try clear c1);(try clear p1);(try clear q1);(try clear hx1);(try clear c2);(try clear p2);(try clear c3);(try clear c6);(try clear p6);(try clear c7);(try clear c8);(try clear c11);(try clear c13);(try clear c14);(try clear p15);(try clear q15);(try clear qEq);(try clear p16);(try clear q16);(try clear hx16);(try clear c17);(try clear c20);(try clear c24);(try clear c25);(try clear c26);(try clear c26b0);(try clear c27);(try clear c27b0);(try clear c29);(try clear c30);(try clear c30b0);(try clear c32);(try clear c34);(try clear c38);(try clear c39);(try clear KR);(try clear KS);(try clear OO);(try clear OP);(try clear OQ);(try clear OR);(try clear OS);(try clear OT);(try clear qba);(try clear qbb);(try clear O9);(try clear Oa);(try clear Ob);(try clear qbc);(try clear qbd);(try clear ql1);(try clear ql2);(try clear ql3);(try clear ql4);(try clear ql5);(try clear qbe);(try clear qbf);(try clear qbg);(try clear qmc);(try clear qmd);(try clear qme);(try clear WQ);(try clear WR);(try clear qap);(try clear qdG);(try clear qdH);(try clear K1);(try clear K2);(try clear Ka);(try clear qdI);(try clear qdJ);(try clear KT);(try clear KU);(try clear OY);(try clear OZ);(try clear U0);(try clear U1);(try clear U2);(try clear U3);(try clear qbl);(try clear qbm);(try clear Oe);(try clear Of);(try clear Og);(try clear qbn);(try clear qbo);(try clear qmD);(try clear qmE);(try clear qmF);(try clear qmG);(try clear qmH);(try clear qbp);(try clear qbq);(try clear qbr);(try clear qmO);(try clear qmP);(try clear qmQ);(try clear WS);(try clear WT);(try clear qaq);(try clear qdS);(try clear qdT);(try clear Ke);(try clear Kf);(try clear Kg);(try clear qdU);(try clear qdV);(try clear U4);(try clear qbB);(try clear qfJ);(try clear qno);(try clear p2);(try clear qfL);(try clear qnw);obtain ⟨G0,J0,Zk,Zb,Z8,Z4,YZ,YU,rfl,HA,HK4,HO_13,YG,QY,Yq,HB⟩:=hrel
         cases gk with
         | zero=>exact absurd HA.out (by simp [QD.l1])
         | succ k4 =>
          have H:=HA.out;clear HA;simp only [QD.l1] at H
          by_cases c41:J0<(l1.length:Int)
          ·
           rw [if_pos c41] at H;have c41b0:decide (J0<(l1.length:Int))=true:=decide_eq_true c41;clear c41
           by_cases c42:0≤J0
           ·
            rw [if_pos c42] at H;have c42b0:decide (0≤J0)=true:=decide_eq_true c42;clear c42
            by_cases c43:J0<(l1.length:Int)
            ·
             rw [if_pos c43] at H;have c43b0:decide (J0<(l1.length:Int))=true:=decide_eq_true c43;clear c43
             by_cases c44:J0<(l2.length:Int)
             ·
              rw [if_pos c44] at H;have c44b0:decide (J0<(l2.length:Int))=true:=decide_eq_true c44;clear c44;replace H:=Option.bind_eq_some_iff.mp H;obtain ⟨⟨t171,Km,t173,O4,t175,OC,Uv⟩,qjJ,H⟩:=H;replace H:(if G0.length<17592186044416 then (QD.l1 k4 l1 l2 (G0++[t171]) (l1.length:Int) (wrap64 (J0+1)) Qa Qk Qd Y8 Y7 Km t173 O4 t175 OC Uv) else (none))=some (r1,r2):=H;have A45:=Q1.mk qjJ;clear qjJ
              by_cases c46:G0.length<17592186044416
              ·
               rw [if_pos c46] at H;have qqV:=Q1.mk c46;clear c46;obtain ⟨qtt,qe8⟩:∃ y_:List Int,y_=(G0++[t171]):=⟨_,rfl⟩
               replace H:(QD.l1 k4 l1 l2 qtt (l1.length:Int) (wrap64 (J0+1)) Qa Qk Qd Y8 Y7 Km t173 O4 t175 OC Uv)=some (r1,r2):=by first|(rw [qe8];with_reducible exact H)|(have H2_:=(Option.bind_some _ _).symm.trans H;rw [qe8];with_reducible exact H2_)|(have H2_:=(Option.bind_some _ _).symm.trans H;with_reducible exact H2_)|with_reducible exact H|(rw [qe8];exact H)|exact H
               have qqW:=Q1.mk qe8;clear qe8;have H':=Q1.mk H;clear H
               try go_wp2
               have n0_:=Q1.mk (Kd.R_drew HO_13.out);have n1_:=Q1.mk (Q6 YG.out);have n2_:=Q1.mk (Q6 QY.out);have n3_:=Q1.mk (Q6 Yq.out);have n4_:=Q1.mk (Q5 HB.out);clear HO_13 YG QY Yq HB;have HO_13:=n0_;have YG:=n1_;have QY:=n2_;have Yq:=n3_;have HB:=n4_;clear n0_ n1_ n2_ n3_ n4_;have qpM:0≤(J0:Int):=of_decide_eq_true (by first|(with_reducible assumption)|assumption);have qpZ:J0<(l1.length:Int):=of_decide_eq_true (by first|(with_reducible assumption)|assumption);obtain ⟨qj3,e169,XR⟩:=Kd.at_int HR1.out J0 qpM qpZ;have Zg:=XR;cases e169;replace XR:=(HB.out.cell (World.block_lt_of_cell? w _ XR)).trans XR;replace qpM:=eq_true qpM;replace qpZ:=eq_true qpZ;have qpN:0≤(J0:Int):=of_decide_eq_true (by first|(with_reducible assumption)|assumption);have qp0:J0<(l2.length:Int):=of_decide_eq_true (by first|(with_reducible assumption)|assumption);obtain ⟨qj4,e170,XS⟩:=Kd.at_int HR2.out J0 qpN qp0;have Zh:=XS;cases e170;replace XS:=(HB.out.cell (World.block_lt_of_cell? w _ XS)).trans XS;replace qpN:=eq_true qpN;replace qp0:=eq_true qp0;refine qaw (n:=18) (S:=fun w'=>w'.cell? ⟨YM,0,none⟩=some (.slice Y3 Qa.length QH)∧w'.cell? ⟨YM,1,none⟩=some (.slice Y0 Qk.length QJ)∧w'.cell? ⟨YM,2,none⟩=some (.slice Y5 Qd.length QL)∧w'.cell? ⟨YM,3,none⟩=some (.int .i64 Y8)∧w'.cell? ⟨YM,4,none⟩=some (.int .i64 Y7)∧w'.cell? ⟨Yl,0,none⟩=some (.int .i64 Zk)∧w'.cell? ⟨Yl,1,none⟩=some (.int .i64 Zb)∧w'.cell? ⟨Yl,2,none⟩=some (.int .i64 Z8)∧w'.cell? ⟨Yl,3,none⟩=some (.int .i64 Z4)∧w'.cell? ⟨Yl,4,none⟩=some (.int .i64 YZ)∧w'.cell? ⟨Yl,5,none⟩=some (.int .i64 YU)∧w'.cell? (qj3.add (J0).toNat)=some (.int .i64 (rd l1 J0))∧w'.cell? (qj4.add (J0).toNat)=some (.int .i64 (rd l2 J0))) (ds:=[]) #[false,false,false,false,false,false,false,false,false,false,false,false,false,false,false,false,false,false] (by kernel_rfl) rfl rfl ⟨(Q8 QY.out 0).trans rfl,(Q8 QY.out 1).trans rfl,(Q8 QY.out 2).trans rfl,(Q8 QY.out 3).trans rfl,(Q8 QY.out 4).trans rfl,(Q8 Yq.out 0).trans rfl,(Q8 Yq.out 1).trans rfl,(Q8 Yq.out 2).trans rfl,(Q8 Yq.out 3).trans rfl,(Q8 Yq.out 4).trans rfl,(Q8 Yq.out 5).trans rfl,((HB.out.cell (World.block_lt_of_cell? w _ Zg)).trans Zg),((HB.out.cell (World.block_lt_of_cell? w _ Zh)).trans Zh)⟩ (fun hHeld => ?_);refine Uw QD.tab15 QD.bits15 (fun HT_ HW_ => ?_)
               generalize wr.drew=w47 at HO_13 YG QY Yq HB XR XS hHeld ⊢
               refine Zn (i:=0) (N:=some 64) (v:=?_) (a':=?_) #[true,false,false,false,false,false,false,false,false,false,false,false,false,false,false,false,false,false] rfl rfl (YQ HT_.out (by kernel_rfl)) (fun _ _ _ h=>h) (Or.inl ⟨by rfl,?_⟩) ?_ ?_
               rotate_left
               ·
                intro w'
                go_simp
                with_reducible rfl
               rotate_left
               ·
                simp only [Act.put,List.setIfInBounds_toArray,List.set_cons_zero,List.set_cons_succ,Yh,Yk]
                rfl
               refine Zn (i:=3) (N:=some 67) (v:=?_) (a':=?_) #[true,false,false,true,false,false,false,false,false,false,false,false,false,false,false,false,false,false] rfl rfl (YQ HT_.out (by kernel_rfl)) (fun _ _ _ h=>h) (Or.inl ⟨by rfl,?_⟩) ?_ ?_
               rotate_left
               ·
                intro w'
                go_simp
                with_reducible rfl
               rotate_left
               ·
                simp only [Act.put,List.setIfInBounds_toArray,List.set_cons_zero,List.set_cons_succ,Yh,Yk]
                rfl
               refine Zn (i:=4) (N:=some 68) (v:=?_) (a':=?_) #[true,false,false,true,true,false,false,false,false,false,false,false,false,false,false,false,false,false] rfl rfl (YQ HT_.out (by kernel_rfl)) (fun _ _ _ h=>h) (Or.inl ⟨by rfl,?_⟩) ?_ ?_
               rotate_left
               ·
                intro w'
                go_simp
                with_reducible rfl
               rotate_left
               ·
                simp only [Act.put,List.setIfInBounds_toArray,List.set_cons_zero,List.set_cons_succ,Yh,Yk]
                rfl
               refine Zn (i:=5) (N:=some 69) (v:=?_) (a':=?_) #[true,false,false,true,true,true,false,false,false,false,false,false,false,false,false,false,false,false] rfl rfl (YQ HT_.out (by kernel_rfl)) (fun _ _ _ h=>h) (Or.inl ⟨by rfl,?_⟩) ?_ ?_
               rotate_left
               ·
                intro w'
                go_simp
                with_reducible rfl
               rotate_left
               ·
                simp only [Act.put,List.setIfInBounds_toArray,List.set_cons_zero,List.set_cons_succ,Yh,Yk]
                rfl
               refine Zn (i:=7) (N:=some 71) (v:=?_) (a':=?_) #[true,false,false,true,true,true,false,true,false,false,false,false,false,false,false,false,false,false] rfl rfl (YQ HT_.out (by kernel_rfl)) (fun _ _ _ h=>h) (Or.inl ⟨by rfl,?_⟩) ?_ ?_
               rotate_left
               ·
                intro w'
                go_simp
                with_reducible rfl
               rotate_left
               ·
                simp only [Act.put,List.setIfInBounds_toArray,List.set_cons_zero,List.set_cons_succ,Yh,Yk]
                rfl
               refine Zn (i:=8) (N:=some 72) (v:=?_) (a':=?_) #[true,false,false,true,true,true,false,true,true,false,false,false,false,false,false,false,false,false] rfl rfl (YQ HT_.out (by kernel_rfl)) (fun _ _ _ h=>h) (Or.inl ⟨by rfl,?_⟩) ?_ ?_
               rotate_left
               ·
                intro w'
                go_simp
                with_reducible rfl
               rotate_left
               ·
                simp only [Act.put,List.setIfInBounds_toArray,List.set_cons_zero,List.set_cons_succ,Yh,Yk]
                rfl
               refine Zn (i:=9) (N:=some 73) (v:=?_) (a':=?_) #[true,false,false,true,true,true,false,true,true,true,false,false,false,false,false,false,false,false] rfl rfl (YQ HT_.out (by kernel_rfl)) (fun _ _ _ h=>h) (Or.inl ⟨by rfl,?_⟩) ?_ ?_
               rotate_left
               ·
                intro w'
                go_simp
                with_reducible rfl
               rotate_left
               ·
                simp only [Act.put,List.setIfInBounds_toArray,List.set_cons_zero,List.set_cons_succ,Yh,Yk]
                rfl
               refine Kz (i:=1) (N:=some 65) (v:=?_) (a':=?_) #[true,true,false,true,true,true,false,true,true,true,false,false,false,false,false,false,false,false] rfl rfl (Jo HT_.out HW_.out (by kernel_rfl)) (fun _ _ _ h=>h) (Or.inl ⟨by rfl,?_⟩) hHeld ?_ ?_
               rotate_left
               ·
                rintro w' ⟨s0,s1,s2,s3,s4,s5,s6,s7,s8,s9,s10,s11,s12⟩
                go_simp
                with_reducible rfl
               rotate_left
               ·
                simp only [Act.put,List.setIfInBounds_toArray,List.set_cons_zero,List.set_cons_succ,Yh,Yk]
                rfl
               refine Kz (i:=2) (N:=some 66) (v:=?_) (a':=?_) #[true,true,true,true,true,true,false,true,true,true,false,false,false,false,false,false,false,false] rfl rfl (Jo HT_.out HW_.out (by kernel_rfl)) (fun _ _ _ h=>h) (Or.inl ⟨by rfl,?_⟩) hHeld ?_ ?_
               rotate_left
               ·
                rintro w' ⟨s0,s1,s2,s3,s4,s5,s6,s7,s8,s9,s10,s11,s12⟩
                go_simp
                with_reducible rfl
               rotate_left
               ·
                simp only [Act.put,List.setIfInBounds_toArray,List.set_cons_zero,List.set_cons_succ,Yh,Yk]
                rfl
               refine Kz (i:=6) (N:=some 70) (v:=?_) (a':=?_) #[true,true,true,true,true,true,true,true,true,true,false,false,false,false,false,false,false,false] rfl rfl (Jo HT_.out HW_.out (by kernel_rfl)) (fun _ _ _ h=>h) (Or.inl ⟨by rfl,?_⟩) hHeld ?_ ?_
               rotate_left
               ·
                rintro w' ⟨s0,s1,s2,s3,s4,s5,s6,s7,s8,s9,s10,s11,s12⟩
                go_simp
                with_reducible rfl
               rotate_left
               ·
                simp only [Act.put,List.setIfInBounds_toArray,List.set_cons_zero,List.set_cons_succ,Yh,Yk]
                rfl
               refine Kz (i:=10) (N:=some 74) (v:=?_) (a':=?_) #[true,true,true,true,true,true,true,true,true,true,true,false,false,false,false,false,false,false] rfl rfl (Jo HT_.out HW_.out (by kernel_rfl)) (fun _ _ _ h=>h) (Or.inl ⟨by rfl,?_⟩) hHeld ?_ ?_
               rotate_left
               ·
                rintro w' ⟨s0,s1,s2,s3,s4,s5,s6,s7,s8,s9,s10,s11,s12⟩
                go_simp
                with_reducible rfl
               rotate_left
               ·
                simp only [Act.put,List.setIfInBounds_toArray,List.set_cons_zero,List.set_cons_succ,Yh,Yk]
                rfl
               refine qoN (σ:=Nat) 2 #[true,true,true,true,true,true,true,true,true,true,true,true,true,true,true,true,false,false] (fun s_=>[(75,.tuple #[.int .i64 t171,.agg #[.int .i64 Km,.int .i64 t173,.int .i64 O4,.int .i64 t175,.int .i64 OC,.int .i64 Uv]]),(16,.pointer (some ⟨s_,0,none⟩)),(63,.tuple #[.int .i64 t171,.agg #[.int .i64 Km,.int .i64 t173,.int .i64 O4,.int .i64 t175,.int .i64 OC,.int .i64 Uv]]),(76,.int .i64 t171),(77,.agg #[.int .i64 Km,.int .i64 t173,.int .i64 O4,.int .i64 t175,.int .i64 OC,.int .i64 Uv])]) (fun s_ w'=>(w'.cell? ⟨YM,0,none⟩=some (.slice Y3 Qa.length QH)∧w'.cell? ⟨YM,1,none⟩=some (.slice Y0 Qk.length QJ)∧w'.cell? ⟨YM,2,none⟩=some (.slice Y5 Qd.length QL)∧w'.cell? ⟨YM,3,none⟩=some (.int .i64 Y8)∧w'.cell? ⟨YM,4,none⟩=some (.int .i64 Y7)∧w'.cell? ⟨Yl,0,none⟩=some (.int .i64 Zk)∧w'.cell? ⟨Yl,1,none⟩=some (.int .i64 Zb)∧w'.cell? ⟨Yl,2,none⟩=some (.int .i64 Z8)∧w'.cell? ⟨Yl,3,none⟩=some (.int .i64 Z4)∧w'.cell? ⟨Yl,4,none⟩=some (.int .i64 YZ)∧w'.cell? ⟨Yl,5,none⟩=some (.int .i64 YU)∧w'.cell? (qj3.add (J0).toNat)=some (.int .i64 (rd l1 J0))∧w'.cell? (qj4.add (J0).toNat)=some (.int .i64 (rd l2 J0)))∧(Kd.R (Kd.int .i64) 3 w' w.heap.size (fun k_=>(w.heap.size≤k_)) u13 G0)∧(w'.heap[ZQ]? = some (.cells #[.slice Y3 Qa.length QH,.slice Y0 Qk.length QJ,.slice Y5 Qd.length QL,.int .i64 Y8,.int .i64 Y7] 39 (0,0)))∧(w'.heap[YM]? = some (.cells #[.slice Y3 Qa.length QH,.slice Y0 Qk.length QJ,.slice Y5 Qd.length QL,.int .i64 Y8,.int .i64 Y7] 111 (0,0)))∧(w'.heap[Yl]? = some (.cells #[.int .i64 Zk,.int .i64 Zb,.int .i64 Z8,.int .i64 Z4,.int .i64 YZ,.int .i64 YU] 115 (0,0)))∧(w'.heap[s_]? = some (.cells #[.int .i64 0,.int .i64 0,.int .i64 0,.int .i64 0,.int .i64 0,.int .i64 0] 115 (0,0)))∧(w.heap.size≤s_)∧(w.heap.size≤s_)∧(ZQ≠s_)∧(s_≠ZQ)∧(YM≠s_)∧(s_≠YM)∧(Yl≠s_)∧(s_≠Yl)∧(Below w.heap.size w w')) ?_ ?_
               rotate_left
               ·
                intro hCont;refine two_ (i:=11) (j:=15) (Ni:=some 75) (Nj:=some 16) #[true,true,true,true,true,true,true,true,true,true,true,true,false,false,false,false,false,false] #[true,true,true,true,true,true,true,true,true,true,true,false,false,false,false,true,false,false] rfl rfl rfl rfl (qk8 HT_.out (by kernel_rfl)) (by decide) (by decide) (fun K hK => ?_) (fun K hK => ?_)
                ·
                 skip
                 refine qdx Try.func77 (by kernel_rfl) rfl #[.agg #[.slice Y3 Qa.length QH,.slice Y0 Qk.length QJ,.slice Y5 Qd.length QL,.int .i64 Y8,.int .i64 Y7],.agg #[.int .i64 Zk,.int .i64 Zb,.int .i64 Z8,.int .i64 Z4,.int .i64 YZ,.int .i64 YU],.int .i64 (rd l1 J0),.int .i64 (rd l2 J0)] 64 (by rfl) rfl rfl rfl (by (try simp only [List.map_toArray,List.map_cons,List.map_nil]);first|done|rfl|(simp only [List.length_drop,List.length_take];rfl)) ?_
                 with_reducible refine (Za.calls _ _ Qa _ _ Qk _ _ Qd Y8 Y7 Zk Zb Z8 Z4 YZ YU (rd l1 J0) (rd l2 J0) t171 Km t173 O4 t175 OC Uv _ ?side1 ?side2 ?side3 ?side4 ?side5 ?side6 A45.out).mono ?_
                 (case side1=>repeat (first|exact (Kd.C_below Jq.out HB.out)|(with_reducible refine Kd.C_alloc ?_ _)|(with_reducible refine Kd.C_drewN ?_ _)|(with_reducible refine Kd.C_drew ?_)))
                 (case side2=>exact JI.out)
                 (case side3=>repeat (first|exact (Kd.C_below JA.out HB.out)|(with_reducible refine Kd.C_alloc ?_ _)|(with_reducible refine Kd.C_drewN ?_ _)|(with_reducible refine Kd.C_drew ?_)))
                 (case side4=>exact JJ.out)
                 (case side5=>repeat (first|exact (Kd.C_below JC.out HB.out)|(with_reducible refine Kd.C_alloc ?_ _)|(with_reducible refine Kd.C_drewN ?_ _)|(with_reducible refine Kd.C_drew ?_)))
                 (case side6=>exact JK.out)
                 rintro e w48 ⟨rfl,hb⟩;refine ⟨_,rfl,?_⟩;have n0_:=Q1.mk (Kd.R_below (by (with_reducible repeat (first|apply Kd.R_alloc|apply Kd.R_drewN|apply Kd.R_drew));exact HO_13.out) hb);have n1_:=Q1.mk (Qf (g:=ZQ) (by (with_reducible repeat (first|refine Q4 ?_ _|refine Q6 ?_|refine Q3 ?_ _));exact YG.out) hb);have n2_:=Q1.mk (Qf (g:=YM) (by (with_reducible repeat (first|refine Q4 ?_ _|refine Q6 ?_|refine Q3 ?_ _));exact QY.out) hb);have n3_:=Q1.mk (Qf (g:=Yl) (by (with_reducible repeat (first|refine Q4 ?_ _|refine Q6 ?_|refine Q3 ?_ _));exact Yq.out) hb);have n4_:=Q1.mk (Qh (by repeat (first|(with_reducible first|exact HB.out|apply Q2|apply Q0|apply Q5|refine Q7 ?_ ZN.out|refine Q7 ?_ ZV.out|refine Q7 ?_ O0.out)|exact HB.out)) hb);clear HO_13 YG QY Yq HB;have HO_13:=n0_;have YG:=n1_;have QY:=n2_;have Yq:=n3_;have HB:=n4_;clear n0_ n1_ n2_ n3_ n4_
                 (try clear hb)
                 (try clear hb2)
                 (try clear hk)
                 (try clear hi)
                 refine hK.out _ _ ⟨(Q8 QY.out 0).trans rfl,(Q8 QY.out 1).trans rfl,(Q8 QY.out 2).trans rfl,(Q8 QY.out 3).trans rfl,(Q8 QY.out 4).trans rfl,(Q8 Yq.out 0).trans rfl,(Q8 Yq.out 1).trans rfl,(Q8 Yq.out 2).trans rfl,(Q8 Yq.out 3).trans rfl,(Q8 Yq.out 4).trans rfl,(Q8 Yq.out 5).trans rfl,((HB.out.cell (World.block_lt_of_cell? w _ Zg)).trans Zg),((HB.out.cell (World.block_lt_of_cell? w _ Zh)).trans Zh)⟩ (fun hHeld => ?_);clear hK K;refine Gs (a':=?_) ?_ ?_
                 rotate_left
                 ·
                  show Act.put _ (some 75) _=_
                  simp only [Act.put,List.setIfInBounds_toArray,List.set_cons_zero,List.set_cons_succ,Yh,Yk]
                  rfl
                 refine Zn (i:=12) (N:=some 63) (v:=?_) (a':=?_) #[true,true,true,true,true,true,true,true,true,true,true,true,true,false,false,false,false,false] rfl rfl (YQ HT_.out (by kernel_rfl)) (fun _ _ _ h=>h) (Or.inl ⟨by rfl,?_⟩) ?_ ?_
                 rotate_left
                 ·
                  intro w'
                  go_simp
                  with_reducible rfl
                 rotate_left
                 ·
                  simp only [Act.put,List.setIfInBounds_toArray,List.set_cons_zero,List.set_cons_succ,Yh,Yk]
                  rfl
                 refine Zn (i:=13) (N:=some 76) (v:=?_) (a':=?_) #[true,true,true,true,true,true,true,true,true,true,true,true,true,true,false,false,false,false] rfl rfl (YQ HT_.out (by kernel_rfl)) (fun _ _ _ h=>h) (Or.inl ⟨by rfl,?_⟩) ?_ ?_
                 rotate_left
                 ·
                  intro w'
                  go_simp
                  with_reducible rfl
                 rotate_left
                 ·
                  simp only [Act.put,List.setIfInBounds_toArray,List.set_cons_zero,List.set_cons_succ,Yh,Yk]
                  rfl
                 refine Zn (i:=14) (N:=some 77) (v:=?_) (a':=?_) #[true,true,true,true,true,true,true,true,true,true,true,true,true,true,true,false,false,false] rfl rfl (YQ HT_.out (by kernel_rfl)) (fun _ _ _ h=>h) (Or.inl ⟨by rfl,?_⟩) ?_ ?_
                 rotate_left
                 ·
                  intro w'
                  go_simp
                  with_reducible rfl
                 rotate_left
                 ·
                  simp only [Act.put,List.setIfInBounds_toArray,List.set_cons_zero,List.set_cons_succ,Yh,Yk]
                  rfl
                 refine one_ (i:=15) (N:=some 16) #[true,true,true,true,true,true,true,true,true,true,true,true,true,true,true,true,false,false] rfl rfl (Ku HT_.out (by kernel_rfl)) (by decide) (fun K hK => ?_);refine Xg ?hg (N:=16) ?hd (cs:=#[.int .i64 0,.int .i64 0,.int .i64 0,.int .i64 0,.int .i64 0,.int .i64 0]) (t:=115) ?hr ?_;(case hd=>rfl);(case hg=>rfl);(case hr=>first|(go_simp;done)|(go_simp;rfl));intro QI hg w49 hbox hb;have n0_:=Q1.mk (Kd.R_below (by (with_reducible repeat (first|apply Kd.R_alloc|apply Kd.R_drewN|apply Kd.R_drew));exact HO_13.out) hb);have n1_:=Q1.mk (Qf (g:=ZQ) (by (with_reducible repeat (first|refine Q4 ?_ _|refine Q6 ?_|refine Q3 ?_ _));exact YG.out) hb);have n2_:=Q1.mk (Qf (g:=YM) (by (with_reducible repeat (first|refine Q4 ?_ _|refine Q6 ?_|refine Q3 ?_ _));exact QY.out) hb);have n3_:=Q1.mk (Qf (g:=Yl) (by (with_reducible repeat (first|refine Q4 ?_ _|refine Q6 ?_|refine Q3 ?_ _));exact Yq.out) hb);have n4_:=Q1.mk (Qh (by repeat (first|(with_reducible first|exact HB.out|apply Q2|apply Q0|apply Q5|refine Q7 ?_ ZN.out|refine Q7 ?_ ZV.out|refine Q7 ?_ O0.out)|exact HB.out)) hb);have n5_:=Q1.mk (hbox);have n6_:=Q1.mk ((by rw [hg];exact (Qe (by repeat (first|(with_reducible first|exact HB.out|apply Q2|apply Q0|apply Q5|refine Q7 ?_ ZN.out|refine Q7 ?_ ZV.out|refine Q7 ?_ O0.out)|exact HB.out))):w.heap.size≤QI));have n7_:=n6_;have n8_:=Q1.mk ((by rw [hg];exact Nat.ne_of_lt (QK (g:=ZQ) (by (with_reducible repeat (first|refine Q4 ?_ _|refine Q6 ?_|refine Q3 ?_ _));exact YG.out)):ZQ≠QI));have n9_:=Q1.mk (n8_.out.symm);have n10_:=Q1.mk ((by rw [hg];exact Nat.ne_of_lt (QK (g:=YM) (by (with_reducible repeat (first|refine Q4 ?_ _|refine Q6 ?_|refine Q3 ?_ _));exact QY.out)):YM≠QI));have n11_:=Q1.mk (n10_.out.symm);have n12_:=Q1.mk ((by rw [hg];exact Nat.ne_of_lt (QK (g:=Yl) (by (with_reducible repeat (first|refine Q4 ?_ _|refine Q6 ?_|refine Q3 ?_ _));exact Yq.out)):Yl≠QI));have n13_:=Q1.mk (n12_.out.symm);clear HO_13 YG QY Yq HB;have HO_13:=n0_;have YG:=n1_;have QY:=n2_;have Yq:=n3_;have HB:=n4_;have Zu:=n5_;have Zp:=n6_;have UU:=n7_;have J4:=n8_;have G2:=n9_;have Yf:=n10_;have G3:=n11_;have Y4:=n12_;have Yb:=n13_;clear n0_ n1_ n2_ n3_ n4_ n5_ n6_ n7_ n8_ n9_ n10_ n11_ n12_ n13_ hb hbox hg;refine hK.out _ _ ⟨(Q8 QY.out 0).trans rfl,(Q8 QY.out 1).trans rfl,(Q8 QY.out 2).trans rfl,(Q8 QY.out 3).trans rfl,(Q8 QY.out 4).trans rfl,(Q8 Yq.out 0).trans rfl,(Q8 Yq.out 1).trans rfl,(Q8 Yq.out 2).trans rfl,(Q8 Yq.out 3).trans rfl,(Q8 Yq.out 4).trans rfl,(Q8 Yq.out 5).trans rfl,((HB.out.cell (World.block_lt_of_cell? w _ Zg)).trans Zg),((HB.out.cell (World.block_lt_of_cell? w _ Zh)).trans Zh)⟩ (fun hHeld => ?_);clear hK K;refine Gs (a':=?_) ?_ ?_
                 rotate_left
                 ·
                  show Act.put _ (some 16) _=_
                  simp only [Act.put,List.setIfInBounds_toArray,List.set_cons_zero,List.set_cons_succ,Yh,Yk]
                  rfl
                 exact Gs (by simp only [UN,Act.put,List.setIfInBounds_toArray,List.set_cons_zero,List.set_cons_succ]) (hCont (QI) _ ⟨hHeld,(by (with_reducible repeat (first|apply Kd.R_alloc|apply Kd.R_drewN|apply Kd.R_drew));exact HO_13.out),(by (with_reducible repeat (first|refine Q4 ?_ _|refine Q6 ?_|refine Q3 ?_ _));exact YG.out),(by (with_reducible repeat (first|refine Q4 ?_ _|refine Q6 ?_|refine Q3 ?_ _));exact QY.out),(by (with_reducible repeat (first|refine Q4 ?_ _|refine Q6 ?_|refine Q3 ?_ _));exact Yq.out),(by (with_reducible repeat (first|refine Q4 ?_ _|refine Q6 ?_|refine Q3 ?_ _));exact Zu.out),Zp.out,UU.out,J4.out,G2.out,Yf.out,G3.out,Y4.out,Yb.out,(by repeat (first|(with_reducible first|exact HB.out|apply Q2|apply Q0|apply Q5|refine Q7 ?_ ZN.out|refine Q7 ?_ ZV.out|refine Q7 ?_ O0.out|refine Q7 ?_ UU.out)|exact HB.out))⟩)
                skip
                refine Xg ?hg (N:=16) ?hd (cs:=#[.int .i64 0,.int .i64 0,.int .i64 0,.int .i64 0,.int .i64 0,.int .i64 0]) (t:=115) ?hr ?_;(case hd=>rfl);(case hg=>rfl);(case hr=>first|(go_simp;done)|(go_simp;rfl));intro QI hg w48 hbox hb;have n0_:=Q1.mk (Kd.R_below (by (with_reducible repeat (first|apply Kd.R_alloc|apply Kd.R_drewN|apply Kd.R_drew));exact HO_13.out) hb);have n1_:=Q1.mk (Qf (g:=ZQ) (by (with_reducible repeat (first|refine Q4 ?_ _|refine Q6 ?_|refine Q3 ?_ _));exact YG.out) hb);have n2_:=Q1.mk (Qf (g:=YM) (by (with_reducible repeat (first|refine Q4 ?_ _|refine Q6 ?_|refine Q3 ?_ _));exact QY.out) hb);have n3_:=Q1.mk (Qf (g:=Yl) (by (with_reducible repeat (first|refine Q4 ?_ _|refine Q6 ?_|refine Q3 ?_ _));exact Yq.out) hb);have n4_:=Q1.mk (Qh (by repeat (first|(with_reducible first|exact HB.out|apply Q2|apply Q0|apply Q5|refine Q7 ?_ ZN.out|refine Q7 ?_ ZV.out|refine Q7 ?_ O0.out)|exact HB.out)) hb);have n5_:=Q1.mk (hbox);have n6_:=Q1.mk ((by rw [hg];exact (Qe (by repeat (first|(with_reducible first|exact HB.out|apply Q2|apply Q0|apply Q5|refine Q7 ?_ ZN.out|refine Q7 ?_ ZV.out|refine Q7 ?_ O0.out)|exact HB.out))):w.heap.size≤QI));have n7_:=n6_;have n8_:=Q1.mk ((by rw [hg];exact Nat.ne_of_lt (QK (g:=ZQ) (by (with_reducible repeat (first|refine Q4 ?_ _|refine Q6 ?_|refine Q3 ?_ _));exact YG.out)):ZQ≠QI));have n9_:=Q1.mk (n8_.out.symm);have n10_:=Q1.mk ((by rw [hg];exact Nat.ne_of_lt (QK (g:=YM) (by (with_reducible repeat (first|refine Q4 ?_ _|refine Q6 ?_|refine Q3 ?_ _));exact QY.out)):YM≠QI));have n11_:=Q1.mk (n10_.out.symm);have n12_:=Q1.mk ((by rw [hg];exact Nat.ne_of_lt (QK (g:=Yl) (by (with_reducible repeat (first|refine Q4 ?_ _|refine Q6 ?_|refine Q3 ?_ _));exact Yq.out)):Yl≠QI));have n13_:=Q1.mk (n12_.out.symm);clear HO_13 YG QY Yq HB;have HO_13:=n0_;have YG:=n1_;have QY:=n2_;have Yq:=n3_;have HB:=n4_;have Zu:=n5_;have Zp:=n6_;have UU:=n7_;have J4:=n8_;have G2:=n9_;have Yf:=n10_;have G3:=n11_;have Y4:=n12_;have Yb:=n13_;clear n0_ n1_ n2_ n3_ n4_ n5_ n6_ n7_ n8_ n9_ n10_ n11_ n12_ n13_ hb hbox hg;refine hK.out _ _ ⟨(Q8 QY.out 0).trans rfl,(Q8 QY.out 1).trans rfl,(Q8 QY.out 2).trans rfl,(Q8 QY.out 3).trans rfl,(Q8 QY.out 4).trans rfl,(Q8 Yq.out 0).trans rfl,(Q8 Yq.out 1).trans rfl,(Q8 Yq.out 2).trans rfl,(Q8 Yq.out 3).trans rfl,(Q8 Yq.out 4).trans rfl,(Q8 Yq.out 5).trans rfl,((HB.out.cell (World.block_lt_of_cell? w _ Zg)).trans Zg),((HB.out.cell (World.block_lt_of_cell? w _ Zh)).trans Zh)⟩ (fun hHeld => ?_);clear hK K;refine Gs (a':=?_) ?_ ?_
                rotate_left
                ·
                 show Act.put _ (some 16) _=_
                 simp only [Act.put,List.setIfInBounds_toArray,List.set_cons_zero,List.set_cons_succ,Yh,Yk]
                 rfl
                refine one_ (i:=11) (N:=some 75) #[true,true,true,true,true,true,true,true,true,true,true,true,false,false,false,true,false,false] rfl rfl (Ku HT_.out (by kernel_rfl)) (by decide) (fun K hK => ?_);refine qdx Try.func77 (by kernel_rfl) rfl #[.agg #[.slice Y3 Qa.length QH,.slice Y0 Qk.length QJ,.slice Y5 Qd.length QL,.int .i64 Y8,.int .i64 Y7],.agg #[.int .i64 Zk,.int .i64 Zb,.int .i64 Z8,.int .i64 Z4,.int .i64 YZ,.int .i64 YU],.int .i64 (rd l1 J0),.int .i64 (rd l2 J0)] 64 (by rfl) rfl rfl rfl (by (try simp only [List.map_toArray,List.map_cons,List.map_nil]);first|done|rfl|(simp only [List.length_drop,List.length_take];rfl)) ?_
                with_reducible refine (Za.calls _ _ Qa _ _ Qk _ _ Qd Y8 Y7 Zk Zb Z8 Z4 YZ YU (rd l1 J0) (rd l2 J0) t171 Km t173 O4 t175 OC Uv _ ?side1 ?side2 ?side3 ?side4 ?side5 ?side6 A45.out).mono ?_
                (case side1=>repeat (first|exact (Kd.C_below Jq.out HB.out)|(with_reducible refine Kd.C_alloc ?_ _)|(with_reducible refine Kd.C_drewN ?_ _)|(with_reducible refine Kd.C_drew ?_)))
                (case side2=>exact JI.out)
                (case side3=>repeat (first|exact (Kd.C_below JA.out HB.out)|(with_reducible refine Kd.C_alloc ?_ _)|(with_reducible refine Kd.C_drewN ?_ _)|(with_reducible refine Kd.C_drew ?_)))
                (case side4=>exact JJ.out)
                (case side5=>repeat (first|exact (Kd.C_below JC.out HB.out)|(with_reducible refine Kd.C_alloc ?_ _)|(with_reducible refine Kd.C_drewN ?_ _)|(with_reducible refine Kd.C_drew ?_)))
                (case side6=>exact JK.out)
                rintro e w49 ⟨rfl,hb⟩;refine ⟨_,rfl,?_⟩;have n0_:=Q1.mk (Kd.R_below (by (with_reducible repeat (first|apply Kd.R_alloc|apply Kd.R_drewN|apply Kd.R_drew));exact HO_13.out) hb);have n1_:=Q1.mk (Qf (g:=ZQ) (by (with_reducible repeat (first|refine Q4 ?_ _|refine Q6 ?_|refine Q3 ?_ _));exact YG.out) hb);have n2_:=Q1.mk (Qf (g:=YM) (by (with_reducible repeat (first|refine Q4 ?_ _|refine Q6 ?_|refine Q3 ?_ _));exact QY.out) hb);have n3_:=Q1.mk (Qf (g:=Yl) (by (with_reducible repeat (first|refine Q4 ?_ _|refine Q6 ?_|refine Q3 ?_ _));exact Yq.out) hb);have n4_:=Q1.mk (Qf (g:=QI) (by (with_reducible repeat (first|refine Q4 ?_ _|refine Q6 ?_|refine Q3 ?_ _));exact Zu.out) hb);have n5_:=Q1.mk (Qh (by repeat (first|(with_reducible first|exact HB.out|apply Q2|apply Q0|apply Q5|refine Q7 ?_ ZN.out|refine Q7 ?_ ZV.out|refine Q7 ?_ O0.out|refine Q7 ?_ UU.out)|exact HB.out)) hb);clear HO_13 YG QY Yq Zu HB;have HO_13:=n0_;have YG:=n1_;have QY:=n2_;have Yq:=n3_;have Zu:=n4_;have HB:=n5_;clear n0_ n1_ n2_ n3_ n4_ n5_
                (try clear hb)
                (try clear hb2)
                (try clear hk)
                (try clear hi)
                refine hK.out _ _ ⟨(Q8 QY.out 0).trans rfl,(Q8 QY.out 1).trans rfl,(Q8 QY.out 2).trans rfl,(Q8 QY.out 3).trans rfl,(Q8 QY.out 4).trans rfl,(Q8 Yq.out 0).trans rfl,(Q8 Yq.out 1).trans rfl,(Q8 Yq.out 2).trans rfl,(Q8 Yq.out 3).trans rfl,(Q8 Yq.out 4).trans rfl,(Q8 Yq.out 5).trans rfl,((HB.out.cell (World.block_lt_of_cell? w _ Zg)).trans Zg),((HB.out.cell (World.block_lt_of_cell? w _ Zh)).trans Zh)⟩ (fun hHeld => ?_);clear hK K;refine Gs (a':=?_) ?_ ?_
                rotate_left
                ·
                 show Act.put _ (some 75) _=_
                 simp only [Act.put,List.setIfInBounds_toArray,List.set_cons_zero,List.set_cons_succ,Yh,Yk]
                 rfl
                refine Zn (i:=12) (N:=some 63) (v:=?_) (a':=?_) #[true,true,true,true,true,true,true,true,true,true,true,true,true,false,false,true,false,false] rfl rfl (YQ HT_.out (by kernel_rfl)) (fun _ _ _ h=>h) (Or.inl ⟨by rfl,?_⟩) ?_ ?_
                rotate_left
                ·
                 intro w'
                 go_simp
                 with_reducible rfl
                rotate_left
                ·
                 simp only [Act.put,List.setIfInBounds_toArray,List.set_cons_zero,List.set_cons_succ,Yh,Yk]
                 rfl
                refine Zn (i:=13) (N:=some 76) (v:=?_) (a':=?_) #[true,true,true,true,true,true,true,true,true,true,true,true,true,true,false,true,false,false] rfl rfl (YQ HT_.out (by kernel_rfl)) (fun _ _ _ h=>h) (Or.inl ⟨by rfl,?_⟩) ?_ ?_
                rotate_left
                ·
                 intro w'
                 go_simp
                 with_reducible rfl
                rotate_left
                ·
                 simp only [Act.put,List.setIfInBounds_toArray,List.set_cons_zero,List.set_cons_succ,Yh,Yk]
                 rfl
                refine Zn (i:=14) (N:=some 77) (v:=?_) (a':=?_) #[true,true,true,true,true,true,true,true,true,true,true,true,true,true,true,true,false,false] rfl rfl (YQ HT_.out (by kernel_rfl)) (fun _ _ _ h=>h) (Or.inl ⟨by rfl,?_⟩) ?_ ?_
                rotate_left
                ·
                 intro w'
                 go_simp
                 with_reducible rfl
                rotate_left
                ·
                 simp only [Act.put,List.setIfInBounds_toArray,List.set_cons_zero,List.set_cons_succ,Yh,Yk]
                 rfl
                exact Gs (by simp only [UN,Act.put,List.setIfInBounds_toArray,List.set_cons_zero,List.set_cons_succ]) (hCont (QI) _ ⟨hHeld,(by (with_reducible repeat (first|apply Kd.R_alloc|apply Kd.R_drewN|apply Kd.R_drew));exact HO_13.out),(by (with_reducible repeat (first|refine Q4 ?_ _|refine Q6 ?_|refine Q3 ?_ _));exact YG.out),(by (with_reducible repeat (first|refine Q4 ?_ _|refine Q6 ?_|refine Q3 ?_ _));exact QY.out),(by (with_reducible repeat (first|refine Q4 ?_ _|refine Q6 ?_|refine Q3 ?_ _));exact Yq.out),(by (with_reducible repeat (first|refine Q4 ?_ _|refine Q6 ?_|refine Q3 ?_ _));exact Zu.out),Zp.out,UU.out,J4.out,G2.out,Yf.out,G3.out,Y4.out,Yb.out,(by repeat (first|(with_reducible first|exact HB.out|apply Q2|apply Q0|apply Q5|refine Q7 ?_ ZN.out|refine Q7 ?_ ZV.out|refine Q7 ?_ O0.out|refine Q7 ?_ UU.out)|exact HB.out))⟩)
               rintro QI w50 ⟨hS_,h0_,h1_,h2_,h3_,h4_,h5_,h6_,h7_,h8_,h9_,h10_,h11_,h12_,h13_⟩;have n0_:Q1 (Kd.R (Kd.int .i64) 3 w50 w.heap.size (fun k_=>(w.heap.size≤k_)) u13 G0):=⟨h0_⟩;have n1_:Q1 (w50.heap[ZQ]? = some (.cells #[.slice Y3 Qa.length QH,.slice Y0 Qk.length QJ,.slice Y5 Qd.length QL,.int .i64 Y8,.int .i64 Y7] 39 (0,0))):=⟨h1_⟩;have n2_:Q1 (w50.heap[YM]? = some (.cells #[.slice Y3 Qa.length QH,.slice Y0 Qk.length QJ,.slice Y5 Qd.length QL,.int .i64 Y8,.int .i64 Y7] 111 (0,0))):=⟨h2_⟩;have n3_:Q1 (w50.heap[Yl]? = some (.cells #[.int .i64 Zk,.int .i64 Zb,.int .i64 Z8,.int .i64 Z4,.int .i64 YZ,.int .i64 YU] 115 (0,0))):=⟨h3_⟩;have n4_:Q1 (w50.heap[QI]? = some (.cells #[.int .i64 0,.int .i64 0,.int .i64 0,.int .i64 0,.int .i64 0,.int .i64 0] 115 (0,0))):=⟨h4_⟩;have n5_:Q1 (w.heap.size≤QI):=⟨h5_⟩;have n6_:Q1 (w.heap.size≤QI):=⟨h6_⟩;have n7_:Q1 (ZQ≠QI):=⟨h7_⟩;have n8_:Q1 (QI≠ZQ):=⟨h8_⟩;have n9_:Q1 (YM≠QI):=⟨h9_⟩;have n10_:Q1 (QI≠YM):=⟨h10_⟩;have n11_:Q1 (Yl≠QI):=⟨h11_⟩;have n12_:Q1 (QI≠Yl):=⟨h12_⟩;have n13_:Q1 (Below w.heap.size w w50):=⟨h13_⟩;clear HO_13 YG QY Yq HB h0_ h1_ h2_ h3_ h4_ h5_ h6_ h7_ h8_ h9_ h10_ h11_ h12_ h13_;have HO_13:=n0_;have YG:=n1_;have QY:=n2_;have Yq:=n3_;have Zu:=n4_;have Zp:=n5_;have UU:=n6_;have J4:=n7_;have G2:=n8_;have Yf:=n9_;have G3:=n10_;have Y4:=n11_;have Yb:=n12_;have HB:=n13_;clear n0_ n1_ n2_ n3_ n4_ n5_ n6_ n7_ n8_ n9_ n10_ n11_ n12_ n13_;have hHeld:w50.cell? ⟨YM,0,none⟩=some (.slice Y3 Qa.length QH)∧w50.cell? ⟨YM,1,none⟩=some (.slice Y0 Qk.length QJ)∧w50.cell? ⟨YM,2,none⟩=some (.slice Y5 Qd.length QL)∧w50.cell? ⟨YM,3,none⟩=some (.int .i64 Y8)∧w50.cell? ⟨YM,4,none⟩=some (.int .i64 Y7)∧w50.cell? ⟨Yl,0,none⟩=some (.int .i64 Zk)∧w50.cell? ⟨Yl,1,none⟩=some (.int .i64 Zb)∧w50.cell? ⟨Yl,2,none⟩=some (.int .i64 Z8)∧w50.cell? ⟨Yl,3,none⟩=some (.int .i64 Z4)∧w50.cell? ⟨Yl,4,none⟩=some (.int .i64 YZ)∧w50.cell? ⟨Yl,5,none⟩=some (.int .i64 YU)∧w50.cell? (qj3.add (J0).toNat)=some (.int .i64 (rd l1 J0))∧w50.cell? (qj4.add (J0).toNat)=some (.int .i64 (rd l2 J0)):=hS_;refine Gs (a':=?_) ?_ ?_
               rotate_left
               ·
                simp only [UN,Act.put,List.setIfInBounds_toArray,List.set_cons_zero,List.set_cons_succ]
                rfl
               refine Zn (i:=16) (N:=some 15) (v:=?_) (a':=?_) #[true,true,true,true,true,true,true,true,true,true,true,true,true,true,true,true,true,false] rfl rfl (YQ HT_.out (by kernel_rfl)) (fun _ _ _ h=>h) (Or.inl ⟨by rfl,?_⟩) ?_ ?_
               rotate_left
               ·
                intro w'
                go_simp
                with_reducible rfl
               rotate_left
               ·
                simp only [Act.put,List.setIfInBounds_toArray,List.set_cons_zero,List.set_cons_succ,Yh,Yk]
                rfl
               refine one_ (i:=17) (N:=none) #[true,true,true,true,true,true,true,true,true,true,true,true,true,true,true,true,true,true] rfl rfl (Ku HT_.out (by kernel_rfl)) (by decide) (fun K hK => ?_);have qEb:w50.cell? ⟨QI,0,none⟩=some (.int .i64 0):=(Q8 Zu.out 0).trans rfl;have qBV:=Q9 Zu.out 0;have qyH:=J4.out;have qyI:=Yf.out;have qyJ:=Y4.out;have qxV:=G2.out;have qxW:=G3.out;have qxX:=Yb.out;have qEc:w50.cell? ⟨QI,1,none⟩=some (.int .i64 0):=(Q8 Zu.out 1).trans rfl;have qBW:=Q9 Zu.out 1;have qyK:=J4.out;have qyL:=Yf.out;have qyM:=Y4.out;have qxY:=G2.out;have qxZ:=G3.out;have qx0:=Yb.out;have qEd:w50.cell? ⟨QI,2,none⟩=some (.int .i64 0):=(Q8 Zu.out 2).trans rfl;have qBX:=Q9 Zu.out 2;have qyN:=J4.out;have qyO:=Yf.out;have qyP:=Y4.out;have qx1:=G2.out;have qx2:=G3.out;have qx3:=Yb.out;have qEe:w50.cell? ⟨QI,3,none⟩=some (.int .i64 0):=(Q8 Zu.out 3).trans rfl;have qBY:=Q9 Zu.out 3;have qyQ:=J4.out;have qyR:=Yf.out;have qyS:=Y4.out;have qx4:=G2.out;have qx5:=G3.out;have qx6:=Yb.out;have qEf:w50.cell? ⟨QI,4,none⟩=some (.int .i64 0):=(Q8 Zu.out 4).trans rfl;have qBZ:=Q9 Zu.out 4;have qyT:=J4.out;have qyU:=Yf.out;have qyV:=Y4.out;have qx7:=G2.out;have qx8:=G3.out;have qx9:=Yb.out;have qEg:w50.cell? ⟨QI,5,none⟩=some (.int .i64 0):=(Q8 Zu.out 5).trans rfl;have qB0:=Q9 Zu.out 5;have qyW:=J4.out;have qyX:=Yf.out;have qyY:=Y4.out;have qya:=G2.out;have qyb:=G3.out;have qyc:=Yb.out;refine qiF (w1:=?_) (by rfl) rfl ?_ ?_
               rotate_left
               ·
                go_simp
                rfl
               refine hK.out _ _ ⟨((Ql (p:=⟨QI,_,none⟩) Yf.out _).trans (((Ql (p:=⟨QI,_,none⟩) Yf.out _).trans (((Ql (p:=⟨QI,_,none⟩) Yf.out _).trans (((Ql (p:=⟨QI,_,none⟩) Yf.out _).trans (((Ql (p:=⟨QI,_,none⟩) Yf.out _).trans (((Ql (p:=⟨QI,_,none⟩) Yf.out _).trans (hHeld.1)))))))))))),((Ql (p:=⟨QI,_,none⟩) Yf.out _).trans (((Ql (p:=⟨QI,_,none⟩) Yf.out _).trans (((Ql (p:=⟨QI,_,none⟩) Yf.out _).trans (((Ql (p:=⟨QI,_,none⟩) Yf.out _).trans (((Ql (p:=⟨QI,_,none⟩) Yf.out _).trans (((Ql (p:=⟨QI,_,none⟩) Yf.out _).trans (hHeld.2.1)))))))))))),((Ql (p:=⟨QI,_,none⟩) Yf.out _).trans (((Ql (p:=⟨QI,_,none⟩) Yf.out _).trans (((Ql (p:=⟨QI,_,none⟩) Yf.out _).trans (((Ql (p:=⟨QI,_,none⟩) Yf.out _).trans (((Ql (p:=⟨QI,_,none⟩) Yf.out _).trans (((Ql (p:=⟨QI,_,none⟩) Yf.out _).trans (hHeld.2.2.1)))))))))))),((Ql (p:=⟨QI,_,none⟩) Yf.out _).trans (((Ql (p:=⟨QI,_,none⟩) Yf.out _).trans (((Ql (p:=⟨QI,_,none⟩) Yf.out _).trans (((Ql (p:=⟨QI,_,none⟩) Yf.out _).trans (((Ql (p:=⟨QI,_,none⟩) Yf.out _).trans (((Ql (p:=⟨QI,_,none⟩) Yf.out _).trans (hHeld.2.2.2.1)))))))))))),((Ql (p:=⟨QI,_,none⟩) Yf.out _).trans (((Ql (p:=⟨QI,_,none⟩) Yf.out _).trans (((Ql (p:=⟨QI,_,none⟩) Yf.out _).trans (((Ql (p:=⟨QI,_,none⟩) Yf.out _).trans (((Ql (p:=⟨QI,_,none⟩) Yf.out _).trans (((Ql (p:=⟨QI,_,none⟩) Yf.out _).trans (hHeld.2.2.2.2.1)))))))))))),((Ql (p:=⟨QI,_,none⟩) Y4.out _).trans (((Ql (p:=⟨QI,_,none⟩) Y4.out _).trans (((Ql (p:=⟨QI,_,none⟩) Y4.out _).trans (((Ql (p:=⟨QI,_,none⟩) Y4.out _).trans (((Ql (p:=⟨QI,_,none⟩) Y4.out _).trans (((Ql (p:=⟨QI,_,none⟩) Y4.out _).trans (hHeld.2.2.2.2.2.1)))))))))))),((Ql (p:=⟨QI,_,none⟩) Y4.out _).trans (((Ql (p:=⟨QI,_,none⟩) Y4.out _).trans (((Ql (p:=⟨QI,_,none⟩) Y4.out _).trans (((Ql (p:=⟨QI,_,none⟩) Y4.out _).trans (((Ql (p:=⟨QI,_,none⟩) Y4.out _).trans (((Ql (p:=⟨QI,_,none⟩) Y4.out _).trans (hHeld.2.2.2.2.2.2.1)))))))))))),((Ql (p:=⟨QI,_,none⟩) Y4.out _).trans (((Ql (p:=⟨QI,_,none⟩) Y4.out _).trans (((Ql (p:=⟨QI,_,none⟩) Y4.out _).trans (((Ql (p:=⟨QI,_,none⟩) Y4.out _).trans (((Ql (p:=⟨QI,_,none⟩) Y4.out _).trans (((Ql (p:=⟨QI,_,none⟩) Y4.out _).trans (hHeld.2.2.2.2.2.2.2.1)))))))))))),((Ql (p:=⟨QI,_,none⟩) Y4.out _).trans (((Ql (p:=⟨QI,_,none⟩) Y4.out _).trans (((Ql (p:=⟨QI,_,none⟩) Y4.out _).trans (((Ql (p:=⟨QI,_,none⟩) Y4.out _).trans (((Ql (p:=⟨QI,_,none⟩) Y4.out _).trans (((Ql (p:=⟨QI,_,none⟩) Y4.out _).trans (hHeld.2.2.2.2.2.2.2.2.1)))))))))))),((Ql (p:=⟨QI,_,none⟩) Y4.out _).trans (((Ql (p:=⟨QI,_,none⟩) Y4.out _).trans (((Ql (p:=⟨QI,_,none⟩) Y4.out _).trans (((Ql (p:=⟨QI,_,none⟩) Y4.out _).trans (((Ql (p:=⟨QI,_,none⟩) Y4.out _).trans (((Ql (p:=⟨QI,_,none⟩) Y4.out _).trans (hHeld.2.2.2.2.2.2.2.2.2.1)))))))))))),((Ql (p:=⟨QI,_,none⟩) Y4.out _).trans (((Ql (p:=⟨QI,_,none⟩) Y4.out _).trans (((Ql (p:=⟨QI,_,none⟩) Y4.out _).trans (((Ql (p:=⟨QI,_,none⟩) Y4.out _).trans (((Ql (p:=⟨QI,_,none⟩) Y4.out _).trans (((Ql (p:=⟨QI,_,none⟩) Y4.out _).trans (hHeld.2.2.2.2.2.2.2.2.2.2.1)))))))))))),((Ql (p:=⟨QI,_,none⟩) (by first|exact Nat.ne_of_lt (Nat.lt_of_lt_of_le (by have:=World.block_lt_of_cell? _ _ Zg;first|rwa [Qg] at this|exact this) Zp.out)|(rw [Qg];exact Nat.ne_of_lt (Nat.lt_of_lt_of_le (by have:=World.block_lt_of_cell? _ _ Zg;first|rwa [Qg] at this|exact this) Zp.out))|(show (Addr.add _ _).block≠_;rw [Qg];exact Nat.ne_of_lt (Nat.lt_of_lt_of_le (by have:=World.block_lt_of_cell? _ _ Zg;first|rwa [Qg] at this|exact this) Zp.out))|(dsimp only;exact Nat.ne_of_lt (Nat.lt_of_lt_of_le (by have:=World.block_lt_of_cell? _ _ Zg;first|rwa [Qg] at this|exact this) Zp.out))) _).trans (((Ql (p:=⟨QI,_,none⟩) (by first|exact Nat.ne_of_lt (Nat.lt_of_lt_of_le (by have:=World.block_lt_of_cell? _ _ Zg;first|rwa [Qg] at this|exact this) Zp.out)|(rw [Qg];exact Nat.ne_of_lt (Nat.lt_of_lt_of_le (by have:=World.block_lt_of_cell? _ _ Zg;first|rwa [Qg] at this|exact this) Zp.out))|(show (Addr.add _ _).block≠_;rw [Qg];exact Nat.ne_of_lt (Nat.lt_of_lt_of_le (by have:=World.block_lt_of_cell? _ _ Zg;first|rwa [Qg] at this|exact this) Zp.out))|(dsimp only;exact Nat.ne_of_lt (Nat.lt_of_lt_of_le (by have:=World.block_lt_of_cell? _ _ Zg;first|rwa [Qg] at this|exact this) Zp.out))) _).trans (((Ql (p:=⟨QI,_,none⟩) (by first|exact Nat.ne_of_lt (Nat.lt_of_lt_of_le (by have:=World.block_lt_of_cell? _ _ Zg;first|rwa [Qg] at this|exact this) Zp.out)|(rw [Qg];exact Nat.ne_of_lt (Nat.lt_of_lt_of_le (by have:=World.block_lt_of_cell? _ _ Zg;first|rwa [Qg] at this|exact this) Zp.out))|(show (Addr.add _ _).block≠_;rw [Qg];exact Nat.ne_of_lt (Nat.lt_of_lt_of_le (by have:=World.block_lt_of_cell? _ _ Zg;first|rwa [Qg] at this|exact this) Zp.out))|(dsimp only;exact Nat.ne_of_lt (Nat.lt_of_lt_of_le (by have:=World.block_lt_of_cell? _ _ Zg;first|rwa [Qg] at this|exact this) Zp.out))) _).trans (((Ql (p:=⟨QI,_,none⟩) (by first|exact Nat.ne_of_lt (Nat.lt_of_lt_of_le (by have:=World.block_lt_of_cell? _ _ Zg;first|rwa [Qg] at this|exact this) Zp.out)|(rw [Qg];exact Nat.ne_of_lt (Nat.lt_of_lt_of_le (by have:=World.block_lt_of_cell? _ _ Zg;first|rwa [Qg] at this|exact this) Zp.out))|(show (Addr.add _ _).block≠_;rw [Qg];exact Nat.ne_of_lt (Nat.lt_of_lt_of_le (by have:=World.block_lt_of_cell? _ _ Zg;first|rwa [Qg] at this|exact this) Zp.out))|(dsimp only;exact Nat.ne_of_lt (Nat.lt_of_lt_of_le (by have:=World.block_lt_of_cell? _ _ Zg;first|rwa [Qg] at this|exact this) Zp.out))) _).trans (((Ql (p:=⟨QI,_,none⟩) (by first|exact Nat.ne_of_lt (Nat.lt_of_lt_of_le (by have:=World.block_lt_of_cell? _ _ Zg;first|rwa [Qg] at this|exact this) Zp.out)|(rw [Qg];exact Nat.ne_of_lt (Nat.lt_of_lt_of_le (by have:=World.block_lt_of_cell? _ _ Zg;first|rwa [Qg] at this|exact this) Zp.out))|(show (Addr.add _ _).block≠_;rw [Qg];exact Nat.ne_of_lt (Nat.lt_of_lt_of_le (by have:=World.block_lt_of_cell? _ _ Zg;first|rwa [Qg] at this|exact this) Zp.out))|(dsimp only;exact Nat.ne_of_lt (Nat.lt_of_lt_of_le (by have:=World.block_lt_of_cell? _ _ Zg;first|rwa [Qg] at this|exact this) Zp.out))) _).trans (((Ql (p:=⟨QI,_,none⟩) (by first|exact Nat.ne_of_lt (Nat.lt_of_lt_of_le (by have:=World.block_lt_of_cell? _ _ Zg;first|rwa [Qg] at this|exact this) Zp.out)|(rw [Qg];exact Nat.ne_of_lt (Nat.lt_of_lt_of_le (by have:=World.block_lt_of_cell? _ _ Zg;first|rwa [Qg] at this|exact this) Zp.out))|(show (Addr.add _ _).block≠_;rw [Qg];exact Nat.ne_of_lt (Nat.lt_of_lt_of_le (by have:=World.block_lt_of_cell? _ _ Zg;first|rwa [Qg] at this|exact this) Zp.out))|(dsimp only;exact Nat.ne_of_lt (Nat.lt_of_lt_of_le (by have:=World.block_lt_of_cell? _ _ Zg;first|rwa [Qg] at this|exact this) Zp.out))) _).trans (hHeld.2.2.2.2.2.2.2.2.2.2.2.1)))))))))))),((Ql (p:=⟨QI,_,none⟩) (by first|exact Nat.ne_of_lt (Nat.lt_of_lt_of_le (by have:=World.block_lt_of_cell? _ _ Zh;first|rwa [Qg] at this|exact this) Zp.out)|(rw [Qg];exact Nat.ne_of_lt (Nat.lt_of_lt_of_le (by have:=World.block_lt_of_cell? _ _ Zh;first|rwa [Qg] at this|exact this) Zp.out))|(show (Addr.add _ _).block≠_;rw [Qg];exact Nat.ne_of_lt (Nat.lt_of_lt_of_le (by have:=World.block_lt_of_cell? _ _ Zh;first|rwa [Qg] at this|exact this) Zp.out))|(dsimp only;exact Nat.ne_of_lt (Nat.lt_of_lt_of_le (by have:=World.block_lt_of_cell? _ _ Zh;first|rwa [Qg] at this|exact this) Zp.out))) _).trans (((Ql (p:=⟨QI,_,none⟩) (by first|exact Nat.ne_of_lt (Nat.lt_of_lt_of_le (by have:=World.block_lt_of_cell? _ _ Zh;first|rwa [Qg] at this|exact this) Zp.out)|(rw [Qg];exact Nat.ne_of_lt (Nat.lt_of_lt_of_le (by have:=World.block_lt_of_cell? _ _ Zh;first|rwa [Qg] at this|exact this) Zp.out))|(show (Addr.add _ _).block≠_;rw [Qg];exact Nat.ne_of_lt (Nat.lt_of_lt_of_le (by have:=World.block_lt_of_cell? _ _ Zh;first|rwa [Qg] at this|exact this) Zp.out))|(dsimp only;exact Nat.ne_of_lt (Nat.lt_of_lt_of_le (by have:=World.block_lt_of_cell? _ _ Zh;first|rwa [Qg] at this|exact this) Zp.out))) _).trans (((Ql (p:=⟨QI,_,none⟩) (by first|exact Nat.ne_of_lt (Nat.lt_of_lt_of_le (by have:=World.block_lt_of_cell? _ _ Zh;first|rwa [Qg] at this|exact this) Zp.out)|(rw [Qg];exact Nat.ne_of_lt (Nat.lt_of_lt_of_le (by have:=World.block_lt_of_cell? _ _ Zh;first|rwa [Qg] at this|exact this) Zp.out))|(show (Addr.add _ _).block≠_;rw [Qg];exact Nat.ne_of_lt (Nat.lt_of_lt_of_le (by have:=World.block_lt_of_cell? _ _ Zh;first|rwa [Qg] at this|exact this) Zp.out))|(dsimp only;exact Nat.ne_of_lt (Nat.lt_of_lt_of_le (by have:=World.block_lt_of_cell? _ _ Zh;first|rwa [Qg] at this|exact this) Zp.out))) _).trans (((Ql (p:=⟨QI,_,none⟩) (by first|exact Nat.ne_of_lt (Nat.lt_of_lt_of_le (by have:=World.block_lt_of_cell? _ _ Zh;first|rwa [Qg] at this|exact this) Zp.out)|(rw [Qg];exact Nat.ne_of_lt (Nat.lt_of_lt_of_le (by have:=World.block_lt_of_cell? _ _ Zh;first|rwa [Qg] at this|exact this) Zp.out))|(show (Addr.add _ _).block≠_;rw [Qg];exact Nat.ne_of_lt (Nat.lt_of_lt_of_le (by have:=World.block_lt_of_cell? _ _ Zh;first|rwa [Qg] at this|exact this) Zp.out))|(dsimp only;exact Nat.ne_of_lt (Nat.lt_of_lt_of_le (by have:=World.block_lt_of_cell? _ _ Zh;first|rwa [Qg] at this|exact this) Zp.out))) _).trans (((Ql (p:=⟨QI,_,none⟩) (by first|exact Nat.ne_of_lt (Nat.lt_of_lt_of_le (by have:=World.block_lt_of_cell? _ _ Zh;first|rwa [Qg] at this|exact this) Zp.out)|(rw [Qg];exact Nat.ne_of_lt (Nat.lt_of_lt_of_le (by have:=World.block_lt_of_cell? _ _ Zh;first|rwa [Qg] at this|exact this) Zp.out))|(show (Addr.add _ _).block≠_;rw [Qg];exact Nat.ne_of_lt (Nat.lt_of_lt_of_le (by have:=World.block_lt_of_cell? _ _ Zh;first|rwa [Qg] at this|exact this) Zp.out))|(dsimp only;exact Nat.ne_of_lt (Nat.lt_of_lt_of_le (by have:=World.block_lt_of_cell? _ _ Zh;first|rwa [Qg] at this|exact this) Zp.out))) _).trans (((Ql (p:=⟨QI,_,none⟩) (by first|exact Nat.ne_of_lt (Nat.lt_of_lt_of_le (by have:=World.block_lt_of_cell? _ _ Zh;first|rwa [Qg] at this|exact this) Zp.out)|(rw [Qg];exact Nat.ne_of_lt (Nat.lt_of_lt_of_le (by have:=World.block_lt_of_cell? _ _ Zh;first|rwa [Qg] at this|exact this) Zp.out))|(show (Addr.add _ _).block≠_;rw [Qg];exact Nat.ne_of_lt (Nat.lt_of_lt_of_le (by have:=World.block_lt_of_cell? _ _ Zh;first|rwa [Qg] at this|exact this) Zp.out))|(dsimp only;exact Nat.ne_of_lt (Nat.lt_of_lt_of_le (by have:=World.block_lt_of_cell? _ _ Zh;first|rwa [Qg] at this|exact this) Zp.out))) _).trans (hHeld.2.2.2.2.2.2.2.2.2.2.2.2))))))))))))⟩ (fun hHeld => ?_);clear hK K;refine qc7 (Xh HT_.out (by kernel_rfl)) ?_
               try go_wp2
               have n0_:Q1 (Kd.R (Kd.int .i64) 3 ((((((w50.setCell ⟨QI,0,none⟩ (.int .i64 Km)).setCell ⟨QI,1,none⟩ (.int .i64 t173)).setCell ⟨QI,2,none⟩ (.int .i64 O4)).setCell ⟨QI,3,none⟩ (.int .i64 t175)).setCell ⟨QI,4,none⟩ (.int .i64 OC)).setCell ⟨QI,5,none⟩ (.int .i64 Uv)) w.heap.size (fun k_=>(w.heap.size≤k_)) u13 G0):=⟨by (with_reducible repeat (first|apply Kd.R_alloc|apply Kd.R_drewN|apply Kd.R_drew));exact Kd.R_mono (Kd.R_far (p:=⟨QI,5,none⟩) (Kd.R_far (p:=⟨QI,4,none⟩) (Kd.R_far (p:=⟨QI,3,none⟩) (Kd.R_far (p:=⟨QI,2,none⟩) (Kd.R_far (p:=⟨QI,1,none⟩) (Kd.R_far (p:=⟨QI,0,none⟩) (Kd.R_types HO_13.out Zu.out (by decide)) (fun _ hk=>hk.2) (.int .i64 Km)) (fun _ hk=>hk.2) (.int .i64 t173)) (fun _ hk=>hk.2) (.int .i64 O4)) (fun _ hk=>hk.2) (.int .i64 t175)) (fun _ hk=>hk.2) (.int .i64 OC)) (fun _ hk=>hk.2) (.int .i64 Uv)) (fun _ hk=>hk.1)⟩;have n1_:Q1 (((((((w50.setCell ⟨QI,0,none⟩ (.int .i64 Km)).setCell ⟨QI,1,none⟩ (.int .i64 t173)).setCell ⟨QI,2,none⟩ (.int .i64 O4)).setCell ⟨QI,3,none⟩ (.int .i64 t175)).setCell ⟨QI,4,none⟩ (.int .i64 OC)).setCell ⟨QI,5,none⟩ (.int .i64 Uv)).heap[ZQ]? = some (.cells #[.slice Y3 Qa.length QH,.slice Y0 Qk.length QJ,.slice Y5 Qd.length QL,.int .i64 Y8,.int .i64 Y7] 39 (0,0))):=⟨by (with_reducible repeat (first|refine Q4 ?_ _|refine Q6 ?_|refine Q3 ?_ _));refine Qm ?_ J4.out _;(with_reducible repeat (first|refine Q4 ?_ _|refine Q6 ?_|refine Q3 ?_ _));refine Qm ?_ J4.out _;(with_reducible repeat (first|refine Q4 ?_ _|refine Q6 ?_|refine Q3 ?_ _));refine Qm ?_ J4.out _;(with_reducible repeat (first|refine Q4 ?_ _|refine Q6 ?_|refine Q3 ?_ _));refine Qm ?_ J4.out _;(with_reducible repeat (first|refine Q4 ?_ _|refine Q6 ?_|refine Q3 ?_ _));refine Qm ?_ J4.out _;(with_reducible repeat (first|refine Q4 ?_ _|refine Q6 ?_|refine Q3 ?_ _));refine Qm ?_ J4.out _;(with_reducible repeat (first|refine Q4 ?_ _|refine Q6 ?_|refine Q3 ?_ _));exact YG.out⟩;have n2_:Q1 (((((((w50.setCell ⟨QI,0,none⟩ (.int .i64 Km)).setCell ⟨QI,1,none⟩ (.int .i64 t173)).setCell ⟨QI,2,none⟩ (.int .i64 O4)).setCell ⟨QI,3,none⟩ (.int .i64 t175)).setCell ⟨QI,4,none⟩ (.int .i64 OC)).setCell ⟨QI,5,none⟩ (.int .i64 Uv)).heap[YM]? = some (.cells #[.slice Y3 Qa.length QH,.slice Y0 Qk.length QJ,.slice Y5 Qd.length QL,.int .i64 Y8,.int .i64 Y7] 111 (0,0))):=⟨by (with_reducible repeat (first|refine Q4 ?_ _|refine Q6 ?_|refine Q3 ?_ _));refine Qm ?_ Yf.out _;(with_reducible repeat (first|refine Q4 ?_ _|refine Q6 ?_|refine Q3 ?_ _));refine Qm ?_ Yf.out _;(with_reducible repeat (first|refine Q4 ?_ _|refine Q6 ?_|refine Q3 ?_ _));refine Qm ?_ Yf.out _;(with_reducible repeat (first|refine Q4 ?_ _|refine Q6 ?_|refine Q3 ?_ _));refine Qm ?_ Yf.out _;(with_reducible repeat (first|refine Q4 ?_ _|refine Q6 ?_|refine Q3 ?_ _));refine Qm ?_ Yf.out _;(with_reducible repeat (first|refine Q4 ?_ _|refine Q6 ?_|refine Q3 ?_ _));refine Qm ?_ Yf.out _;(with_reducible repeat (first|refine Q4 ?_ _|refine Q6 ?_|refine Q3 ?_ _));exact QY.out⟩;have n3_:Q1 (((((((w50.setCell ⟨QI,0,none⟩ (.int .i64 Km)).setCell ⟨QI,1,none⟩ (.int .i64 t173)).setCell ⟨QI,2,none⟩ (.int .i64 O4)).setCell ⟨QI,3,none⟩ (.int .i64 t175)).setCell ⟨QI,4,none⟩ (.int .i64 OC)).setCell ⟨QI,5,none⟩ (.int .i64 Uv)).heap[Yl]? = some (.cells #[.int .i64 Zk,.int .i64 Zb,.int .i64 Z8,.int .i64 Z4,.int .i64 YZ,.int .i64 YU] 115 (0,0))):=⟨by (with_reducible repeat (first|refine Q4 ?_ _|refine Q6 ?_|refine Q3 ?_ _));refine Qm ?_ Y4.out _;(with_reducible repeat (first|refine Q4 ?_ _|refine Q6 ?_|refine Q3 ?_ _));refine Qm ?_ Y4.out _;(with_reducible repeat (first|refine Q4 ?_ _|refine Q6 ?_|refine Q3 ?_ _));refine Qm ?_ Y4.out _;(with_reducible repeat (first|refine Q4 ?_ _|refine Q6 ?_|refine Q3 ?_ _));refine Qm ?_ Y4.out _;(with_reducible repeat (first|refine Q4 ?_ _|refine Q6 ?_|refine Q3 ?_ _));refine Qm ?_ Y4.out _;(with_reducible repeat (first|refine Q4 ?_ _|refine Q6 ?_|refine Q3 ?_ _));refine Qm ?_ Y4.out _;(with_reducible repeat (first|refine Q4 ?_ _|refine Q6 ?_|refine Q3 ?_ _));exact Yq.out⟩;have n4_:Q1 (((((((w50.setCell ⟨QI,0,none⟩ (.int .i64 Km)).setCell ⟨QI,1,none⟩ (.int .i64 t173)).setCell ⟨QI,2,none⟩ (.int .i64 O4)).setCell ⟨QI,3,none⟩ (.int .i64 t175)).setCell ⟨QI,4,none⟩ (.int .i64 OC)).setCell ⟨QI,5,none⟩ (.int .i64 Uv)).heap[QI]? = some (.cells #[.int .i64 Km,.int .i64 t173,.int .i64 O4,.int .i64 t175,.int .i64 OC,.int .i64 Uv] 115 (0,0))):=⟨by (with_reducible repeat (first|refine Q4 ?_ _|refine Q6 ?_|refine Q3 ?_ _));refine Qv (cs:=#[.int .i64 Km,.int .i64 t173,.int .i64 O4,.int .i64 t175,.int .i64 OC,.int .i64 0]) ?_ 5 _ rfl;(with_reducible repeat (first|refine Q4 ?_ _|refine Q6 ?_|refine Q3 ?_ _));refine Qv (cs:=#[.int .i64 Km,.int .i64 t173,.int .i64 O4,.int .i64 t175,.int .i64 0,.int .i64 0]) ?_ 4 _ rfl;(with_reducible repeat (first|refine Q4 ?_ _|refine Q6 ?_|refine Q3 ?_ _));refine Qv (cs:=#[.int .i64 Km,.int .i64 t173,.int .i64 O4,.int .i64 0,.int .i64 0,.int .i64 0]) ?_ 3 _ rfl;(with_reducible repeat (first|refine Q4 ?_ _|refine Q6 ?_|refine Q3 ?_ _));refine Qv (cs:=#[.int .i64 Km,.int .i64 t173,.int .i64 0,.int .i64 0,.int .i64 0,.int .i64 0]) ?_ 2 _ rfl;(with_reducible repeat (first|refine Q4 ?_ _|refine Q6 ?_|refine Q3 ?_ _));refine Qv (cs:=#[.int .i64 Km,.int .i64 0,.int .i64 0,.int .i64 0,.int .i64 0,.int .i64 0]) ?_ 1 _ rfl;(with_reducible repeat (first|refine Q4 ?_ _|refine Q6 ?_|refine Q3 ?_ _));refine Qv (cs:=#[.int .i64 0,.int .i64 0,.int .i64 0,.int .i64 0,.int .i64 0,.int .i64 0]) ?_ 0 _ rfl;(with_reducible repeat (first|refine Q4 ?_ _|refine Q6 ?_|refine Q3 ?_ _));exact Zu.out⟩;have n5_:Q1 (Below w.heap.size w ((((((w50.setCell ⟨QI,0,none⟩ (.int .i64 Km)).setCell ⟨QI,1,none⟩ (.int .i64 t173)).setCell ⟨QI,2,none⟩ (.int .i64 O4)).setCell ⟨QI,3,none⟩ (.int .i64 t175)).setCell ⟨QI,4,none⟩ (.int .i64 OC)).setCell ⟨QI,5,none⟩ (.int .i64 Uv))):=⟨by repeat (first|(with_reducible first|exact HB.out|apply Q2|apply Q0|apply Q5|refine Q7 ?_ ZN.out|refine Q7 ?_ ZV.out|refine Q7 ?_ O0.out|refine Q7 ?_ UU.out)|exact HB.out)⟩
               (try clear HO_13)
               (try clear YG)
               (try clear QY)
               (try clear Yq)
               (try clear Zu)
               (try clear HB)
               generalize ((((((w50.setCell ⟨QI,0,none⟩ (.int .i64 Km)).setCell ⟨QI,1,none⟩ (.int .i64 t173)).setCell ⟨QI,2,none⟩ (.int .i64 O4)).setCell ⟨QI,3,none⟩ (.int .i64 t175)).setCell ⟨QI,4,none⟩ (.int .i64 OC)).setCell ⟨QI,5,none⟩ (.int .i64 Uv))=w57 at n0_ n1_ n2_ n3_ n4_ n5_ ⊢
               have HO_13:=n0_;have YG:=n1_;have QY:=n2_;have Yq:=n3_;have Zu:=n4_;have HB:=n5_;clear n0_ n1_ n2_ n3_ n4_ n5_;have n0_:=Q1.mk (Kd.R_drew HO_13.out);have n1_:=Q1.mk (Q6 YG.out);have n2_:=Q1.mk (Q6 QY.out);have n3_:=Q1.mk (Q6 Yq.out);have n4_:=Q1.mk (Q6 Zu.out);have n5_:=Q1.mk (Q5 HB.out);clear HO_13 YG QY Yq Zu HB;have HO_13:=n0_;have YG:=n1_;have QY:=n2_;have Yq:=n3_;have Zu:=n4_;have HB:=n5_;clear n0_ n1_ n2_ n3_ n4_ n5_;refine qaw (n:=7) (S:=fun w'=>w'.cell? ⟨QI,0,none⟩=some (.int .i64 Km)∧w'.cell? ⟨QI,1,none⟩=some (.int .i64 t173)∧w'.cell? ⟨QI,2,none⟩=some (.int .i64 O4)∧w'.cell? ⟨QI,3,none⟩=some (.int .i64 t175)∧w'.cell? ⟨QI,4,none⟩=some (.int .i64 OC)∧w'.cell? ⟨QI,5,none⟩=some (.int .i64 Uv)) (ds:=[]) #[false,false,false,false,false,false,false] (by kernel_rfl) rfl rfl ⟨(Q8 Zu.out 0).trans rfl,(Q8 Zu.out 1).trans rfl,(Q8 Zu.out 2).trans rfl,(Q8 Zu.out 3).trans rfl,(Q8 Zu.out 4).trans rfl,(Q8 Zu.out 5).trans rfl⟩ (fun hHeld => ?_)
               generalize w57.drew=w58 at HO_13 YG QY Yq Zu HB hHeld ⊢
               refine Zn (i:=0) (N:=some 78) (v:=?_) (a':=?_) #[true,false,false,false,false,false,false] rfl rfl (by kernel_rfl) (fun _ _ _ h=>h) (Or.inl ⟨by rfl,?_⟩) ?_ ?_
               rotate_left
               ·
                intro w'
                go_simp
                with_reducible rfl
               rotate_left
               ·
                simp only [Act.put,List.setIfInBounds_toArray,List.set_cons_zero,List.set_cons_succ,Yh,Yk]
                rfl
               refine Zn (i:=1) (N:=some 79) (v:=?_) (a':=?_) #[true,true,false,false,false,false,false] rfl rfl (by kernel_rfl) (fun _ _ _ h=>h) (Or.inl ⟨by rfl,?_⟩) ?_ ?_
               rotate_left
               ·
                intro w'
                go_simp
                with_reducible rfl
               rotate_left
               ·
                simp only [Act.put,List.setIfInBounds_toArray,List.set_cons_zero,List.set_cons_succ,Yh,Yk]
                rfl
               refine Kz (i:=4) (N:=some 82) (v:=?_) (a':=?_) #[true,true,false,false,true,false,false] rfl rfl (by kernel_rfl) (fun _ _ _ h=>h) (Or.inl ⟨by rfl,?_⟩) hHeld ?_ ?_
               rotate_left
               ·
                rintro w' ⟨s0,s1,s2,s3,s4,s5⟩
                go_simp
                with_reducible rfl
               rotate_left
               ·
                simp only [Act.put,List.setIfInBounds_toArray,List.set_cons_zero,List.set_cons_succ,Yh,Yk]
                rfl
               refine one_ (i:=2) (N:=some 80) #[true,true,true,false,true,false,false] rfl rfl (by kernel_rfl) (by decide) (fun K hK => ?_);refine qhs (w1:=?_) (v:=?_) (by rfl) rfl ?_ ?_
               rotate_left 2
               ·
                go_simp
                constructor
                ·
                 rfl
                rfl
               refine hK.out _ _ ⟨(Q8 (Q3 Zu.out _) 0).trans rfl,(Q8 (Q3 Zu.out _) 1).trans rfl,(Q8 (Q3 Zu.out _) 2).trans rfl,(Q8 (Q3 Zu.out _) 3).trans rfl,(Q8 (Q3 Zu.out _) 4).trans rfl,(Q8 (Q3 Zu.out _) 5).trans rfl⟩ (fun hHeld => ?_);clear hK K;refine Gs (a':=?_) ?_ ?_
               rotate_left
               ·
                show Act.put _ (some 80) _=_
                simp only [Act.put,List.setIfInBounds_toArray,List.set_cons_zero,List.set_cons_succ,Yh,Yk]
                rfl
               refine one_ (i:=3) (N:=some 81) #[true,true,true,true,true,false,false] rfl rfl (by kernel_rfl) (by decide) (fun K hK => ?_);refine Kd.R_append_step (Kd.int .i64) (w0:=w) w.heap.size (by rfl) (.tmp 78) (.tmp 80) 37 3 (.int .i64 0) 8 rfl Try.underlying37 WK rfl (by decide) (by omega) u13 G0 t171 [.int .i64 t171] (fun k_=>(w.heap.size≤k_)) (fun _=>False) rfl rfl ?aP (fun _ hk=>hk.elim) ?aF ?aO ?aB ?aS ?aL ?_
               (case aP=>exact rfl)
               (case aB=>exact (by repeat (first|(with_reducible first|exact HB.out|apply Q2|apply Q0|apply Q5|refine Q7 ?_ ZN.out|refine Q7 ?_ ZV.out|refine Q7 ?_ O0.out|refine Q7 ?_ UU.out)|exact HB.out)))
               (case aF=>exact (fun k_ hk=>(Nat.le_trans (Qe (by repeat (first|(with_reducible first|exact HB.out|apply Q2|apply Q0|apply Q5|refine Q7 ?_ ZN.out|refine Q7 ?_ ZV.out|refine Q7 ?_ O0.out|refine Q7 ?_ UU.out)|exact HB.out))) hk)))
               (case aO=>exact (by (with_reducible repeat (first|apply Kd.R_alloc|apply Kd.R_drewN|apply Kd.R_drew));exact HO_13.out))
               (case aS=>exact (Qe (by repeat (first|(with_reducible first|exact HB.out|apply Q2|apply Q0|apply Q5|refine Q7 ?_ ZN.out|refine Q7 ?_ ZV.out|refine Q7 ?_ O0.out|refine Q7 ?_ UU.out)|exact HB.out))))
               (case aL=>have:=qqV.out;omega)
               intro qEy w59 ho hb hg hat;rw [← qqW.out] at ho;have n0_:=Q1.mk (JF (g:=ZQ) (by (with_reducible repeat (first|refine Q4 ?_ _|refine Q6 ?_|refine Q3 ?_ _));exact YG.out) hg (Kd.R_ne HO_13.out YG.out (by decide)));have n1_:=Q1.mk (JF (g:=YM) (by (with_reducible repeat (first|refine Q4 ?_ _|refine Q6 ?_|refine Q3 ?_ _));exact QY.out) hg (Kd.R_ne HO_13.out QY.out (by decide)));have n2_:=Q1.mk (JF (g:=Yl) (by (with_reducible repeat (first|refine Q4 ?_ _|refine Q6 ?_|refine Q3 ?_ _));exact Yq.out) hg (Kd.R_ne HO_13.out Yq.out (by decide)));have n3_:=Q1.mk (JF (g:=QI) (by (with_reducible repeat (first|refine Q4 ?_ _|refine Q6 ?_|refine Q3 ?_ _));exact Zu.out) hg (Kd.R_ne HO_13.out Zu.out (by decide)));have n4_:=Q1.mk (hb);have n5_:=Q1.mk (ho);clear YG QY Yq Zu HB HO_13;have YG:=n0_;have QY:=n1_;have Yq:=n2_;have Zu:=n3_;have HB:=n4_;have qqJ:=n5_;clear n0_ n1_ n2_ n3_ n4_ n5_ ho hb hg hat;refine hK.out _ _ ⟨(Q8 Zu.out 0).trans rfl,(Q8 Zu.out 1).trans rfl,(Q8 Zu.out 2).trans rfl,(Q8 Zu.out 3).trans rfl,(Q8 Zu.out 4).trans rfl,(Q8 Zu.out 5).trans rfl⟩ (fun hHeld => ?_);clear hK K;refine Gs (a':=?_) ?_ ?_
               rotate_left
               ·
                show Act.put _ (some 81) _=_
                simp only [Act.put,List.setIfInBounds_toArray,List.set_cons_zero,List.set_cons_succ,Yh,Yk]
                rfl
               refine Zn (i:=5) (N:=some 13) (v:=?_) (a':=?_) #[true,true,true,true,true,true,false] rfl rfl (by kernel_rfl) (fun _ _ _ h=>h) (Or.inl ⟨by rfl,?_⟩) ?_ ?_
               rotate_left
               ·
                intro w'
                go_simp
                with_reducible rfl
               rotate_left
               ·
                simp only [Act.put,List.setIfInBounds_toArray,List.set_cons_zero,List.set_cons_succ,Yh,Yk]
                rfl
               refine one_ (i:=6) (N:=none) #[true,true,true,true,true,true,true] rfl rfl (by kernel_rfl) (by decide) (fun K hK => ?_);have qEh:w59.cell? ⟨Yl,0,none⟩=some (.int .i64 Zk):=(Q8 Yq.out 0).trans rfl;have qB1:=Q9 Yq.out 0;have qyZ:=ZI.out;have qy0:=ZJ.out;have qy1:=Yb.out;have qyd:=KB.out;have qye:=KC.out;have qyf:=Y4.out;have qEi:w59.cell? ⟨Yl,1,none⟩=some (.int .i64 Zb):=(Q8 Yq.out 1).trans rfl;have qB2:=Q9 Yq.out 1;have qy2:=ZI.out;have qy3:=ZJ.out;have qy4:=Yb.out;have qyg:=KB.out;have qyh:=KC.out;have qyi:=Y4.out;have qEj:w59.cell? ⟨Yl,2,none⟩=some (.int .i64 Z8):=(Q8 Yq.out 2).trans rfl;have qB3:=Q9 Yq.out 2;have qy5:=ZI.out;have qy6:=ZJ.out;have qy7:=Yb.out;have qyj:=KB.out;have qyk:=KC.out;have qyl:=Y4.out;have qEk:w59.cell? ⟨Yl,3,none⟩=some (.int .i64 Z4):=(Q8 Yq.out 3).trans rfl;have qB4:=Q9 Yq.out 3;have qy8:=ZI.out;have qy9:=ZJ.out;have qza:=Yb.out;have qym:=KB.out;have qyn:=KC.out;have qyo:=Y4.out;have qEl:w59.cell? ⟨Yl,4,none⟩=some (.int .i64 YZ):=(Q8 Yq.out 4).trans rfl;have qB5:=Q9 Yq.out 4;have qzb:=ZI.out;have qzc:=ZJ.out;have qzd:=Yb.out;have qyp:=KB.out;have qyq:=KC.out;have qyr:=Y4.out;have qEm:w59.cell? ⟨Yl,5,none⟩=some (.int .i64 YU):=(Q8 Yq.out 5).trans rfl;have qB6:=Q9 Yq.out 5;have qze:=ZI.out;have qzf:=ZJ.out;have qzg:=Yb.out;have qys:=KB.out;have qyt:=KC.out;have qyu:=Y4.out;refine qiF (w1:=?_) (by rfl) rfl ?_ ?_
               rotate_left
               ·
                go_simp
                rfl
               refine hK.out _ _ ⟨((Ql (p:=⟨Yl,_,none⟩) Yb.out _).trans (((Ql (p:=⟨Yl,_,none⟩) Yb.out _).trans (((Ql (p:=⟨Yl,_,none⟩) Yb.out _).trans (((Ql (p:=⟨Yl,_,none⟩) Yb.out _).trans (((Ql (p:=⟨Yl,_,none⟩) Yb.out _).trans (((Ql (p:=⟨Yl,_,none⟩) Yb.out _).trans (hHeld.1)))))))))))),((Ql (p:=⟨Yl,_,none⟩) Yb.out _).trans (((Ql (p:=⟨Yl,_,none⟩) Yb.out _).trans (((Ql (p:=⟨Yl,_,none⟩) Yb.out _).trans (((Ql (p:=⟨Yl,_,none⟩) Yb.out _).trans (((Ql (p:=⟨Yl,_,none⟩) Yb.out _).trans (((Ql (p:=⟨Yl,_,none⟩) Yb.out _).trans (hHeld.2.1)))))))))))),((Ql (p:=⟨Yl,_,none⟩) Yb.out _).trans (((Ql (p:=⟨Yl,_,none⟩) Yb.out _).trans (((Ql (p:=⟨Yl,_,none⟩) Yb.out _).trans (((Ql (p:=⟨Yl,_,none⟩) Yb.out _).trans (((Ql (p:=⟨Yl,_,none⟩) Yb.out _).trans (((Ql (p:=⟨Yl,_,none⟩) Yb.out _).trans (hHeld.2.2.1)))))))))))),((Ql (p:=⟨Yl,_,none⟩) Yb.out _).trans (((Ql (p:=⟨Yl,_,none⟩) Yb.out _).trans (((Ql (p:=⟨Yl,_,none⟩) Yb.out _).trans (((Ql (p:=⟨Yl,_,none⟩) Yb.out _).trans (((Ql (p:=⟨Yl,_,none⟩) Yb.out _).trans (((Ql (p:=⟨Yl,_,none⟩) Yb.out _).trans (hHeld.2.2.2.1)))))))))))),((Ql (p:=⟨Yl,_,none⟩) Yb.out _).trans (((Ql (p:=⟨Yl,_,none⟩) Yb.out _).trans (((Ql (p:=⟨Yl,_,none⟩) Yb.out _).trans (((Ql (p:=⟨Yl,_,none⟩) Yb.out _).trans (((Ql (p:=⟨Yl,_,none⟩) Yb.out _).trans (((Ql (p:=⟨Yl,_,none⟩) Yb.out _).trans (hHeld.2.2.2.2.1)))))))))))),((Ql (p:=⟨Yl,_,none⟩) Yb.out _).trans (((Ql (p:=⟨Yl,_,none⟩) Yb.out _).trans (((Ql (p:=⟨Yl,_,none⟩) Yb.out _).trans (((Ql (p:=⟨Yl,_,none⟩) Yb.out _).trans (((Ql (p:=⟨Yl,_,none⟩) Yb.out _).trans (((Ql (p:=⟨Yl,_,none⟩) Yb.out _).trans (hHeld.2.2.2.2.2))))))))))))⟩ (fun hHeld => ?_);clear hK K;refine qc7 (by kernel_rfl) ?_
               try go_wp2
               go_roundg k4
               case measure=>have:=HJ3.out;have:=HK2.out;have:=Uc.out;have:=HK4.out;omega
               case rel=>exact ⟨(qtt),(wrap64 (J0+1)),(Km),(t173),(O4),(t175),(OC),(Uv),(by first|rfl|(simp;done)|(simp [*];done)),H',⟨by have:=HJ3.out;have:=HK2.out;have:=Uc.out;have:=HK4.out;omega⟩,⟨by (with_reducible repeat (first|apply Kd.R_alloc|apply Kd.R_drewN|apply Kd.R_drew));exact Kd.R_mono (Kd.R_far (p:=⟨Yl,5,none⟩) (Kd.R_far (p:=⟨Yl,4,none⟩) (Kd.R_far (p:=⟨Yl,3,none⟩) (Kd.R_far (p:=⟨Yl,2,none⟩) (Kd.R_far (p:=⟨Yl,1,none⟩) (Kd.R_far (p:=⟨Yl,0,none⟩) (Kd.R_types qqJ.out Yq.out (by decide)) (fun _ hk=>hk.2) (.int .i64 Km)) (fun _ hk=>hk.2) (.int .i64 t173)) (fun _ hk=>hk.2) (.int .i64 O4)) (fun _ hk=>hk.2) (.int .i64 t175)) (fun _ hk=>hk.2) (.int .i64 OC)) (fun _ hk=>hk.2) (.int .i64 Uv)) (fun _ hk=>hk.1)⟩,⟨by (with_reducible repeat (first|refine Q4 ?_ _|refine Q6 ?_|refine Q3 ?_ _));refine Qm ?_ ZI.out _;(with_reducible repeat (first|refine Q4 ?_ _|refine Q6 ?_|refine Q3 ?_ _));refine Qm ?_ ZI.out _;(with_reducible repeat (first|refine Q4 ?_ _|refine Q6 ?_|refine Q3 ?_ _));refine Qm ?_ ZI.out _;(with_reducible repeat (first|refine Q4 ?_ _|refine Q6 ?_|refine Q3 ?_ _));refine Qm ?_ ZI.out _;(with_reducible repeat (first|refine Q4 ?_ _|refine Q6 ?_|refine Q3 ?_ _));refine Qm ?_ ZI.out _;(with_reducible repeat (first|refine Q4 ?_ _|refine Q6 ?_|refine Q3 ?_ _));refine Qm ?_ ZI.out _;(with_reducible repeat (first|refine Q4 ?_ _|refine Q6 ?_|refine Q3 ?_ _));exact YG.out⟩,⟨by (with_reducible repeat (first|refine Q4 ?_ _|refine Q6 ?_|refine Q3 ?_ _));refine Qm ?_ ZJ.out _;(with_reducible repeat (first|refine Q4 ?_ _|refine Q6 ?_|refine Q3 ?_ _));refine Qm ?_ ZJ.out _;(with_reducible repeat (first|refine Q4 ?_ _|refine Q6 ?_|refine Q3 ?_ _));refine Qm ?_ ZJ.out _;(with_reducible repeat (first|refine Q4 ?_ _|refine Q6 ?_|refine Q3 ?_ _));refine Qm ?_ ZJ.out _;(with_reducible repeat (first|refine Q4 ?_ _|refine Q6 ?_|refine Q3 ?_ _));refine Qm ?_ ZJ.out _;(with_reducible repeat (first|refine Q4 ?_ _|refine Q6 ?_|refine Q3 ?_ _));refine Qm ?_ ZJ.out _;(with_reducible repeat (first|refine Q4 ?_ _|refine Q6 ?_|refine Q3 ?_ _));exact QY.out⟩,⟨by (with_reducible repeat (first|refine Q4 ?_ _|refine Q6 ?_|refine Q3 ?_ _));refine Qv (cs:=#[.int .i64 Km,.int .i64 t173,.int .i64 O4,.int .i64 t175,.int .i64 OC,.int .i64 YU]) ?_ 5 _ rfl;(with_reducible repeat (first|refine Q4 ?_ _|refine Q6 ?_|refine Q3 ?_ _));refine Qv (cs:=#[.int .i64 Km,.int .i64 t173,.int .i64 O4,.int .i64 t175,.int .i64 YZ,.int .i64 YU]) ?_ 4 _ rfl;(with_reducible repeat (first|refine Q4 ?_ _|refine Q6 ?_|refine Q3 ?_ _));refine Qv (cs:=#[.int .i64 Km,.int .i64 t173,.int .i64 O4,.int .i64 Z4,.int .i64 YZ,.int .i64 YU]) ?_ 3 _ rfl;(with_reducible repeat (first|refine Q4 ?_ _|refine Q6 ?_|refine Q3 ?_ _));refine Qv (cs:=#[.int .i64 Km,.int .i64 t173,.int .i64 Z8,.int .i64 Z4,.int .i64 YZ,.int .i64 YU]) ?_ 2 _ rfl;(with_reducible repeat (first|refine Q4 ?_ _|refine Q6 ?_|refine Q3 ?_ _));refine Qv (cs:=#[.int .i64 Km,.int .i64 Zb,.int .i64 Z8,.int .i64 Z4,.int .i64 YZ,.int .i64 YU]) ?_ 1 _ rfl;(with_reducible repeat (first|refine Q4 ?_ _|refine Q6 ?_|refine Q3 ?_ _));refine Qv (cs:=#[.int .i64 Zk,.int .i64 Zb,.int .i64 Z8,.int .i64 Z4,.int .i64 YZ,.int .i64 YU]) ?_ 0 _ rfl;(with_reducible repeat (first|refine Q4 ?_ _|refine Q6 ?_|refine Q3 ?_ _));exact Yq.out⟩,⟨by repeat (first|(with_reducible first|exact HB.out|apply Q2|apply Q0|apply Q5|refine Q7 ?_ ZN.out|refine Q7 ?_ ZV.out|refine Q7 ?_ O0.out|refine Q7 ?_ UU.out)|exact HB.out)⟩⟩
              rw [if_neg c46] at H
              exact absurd H (by simp)
             rw [if_neg c44] at H
             exact absurd H (by simp)
            rw [if_neg c43] at H
            exact absurd H (by simp)
           rw [if_neg c42] at H
           exact absurd H (by simp)
          rw [if_neg c41] at H;have c41b0:decide (J0<(l1.length:Int))=false:=decide_eq_false c41;clear c41
          by_cases c66:0≤(G0.length:Int)
          ·
           rw [if_pos c66] at H;have c66b0:=eq_true c66;have c66b1:decide (0≤(G0.length:Int))=true:=decide_eq_true c66;clear c66
           by_cases c67:(G0.length:Int)≤(G0.length:Int)
           ·
            rw [if_pos c67] at H;have c67b0:=eq_true c67;have c67b1:decide ((G0.length:Int)≤(G0.length:Int))=true:=decide_eq_true c67;clear c67;obtain ⟨qqd,qe9⟩:∃ y_:List Int,y_=(G0.take ((G0.length:Int):Int).toNat):=⟨_,rfl⟩
            replace H:(some (qqd,0))=some (r1,r2):=by first|(rw [qe9];with_reducible exact H)|(have H2_:=(Option.bind_some _ _).symm.trans H;rw [qe9];with_reducible exact H2_)|(have H2_:=(Option.bind_some _ _).symm.trans H;with_reducible exact H2_)|with_reducible exact H|(rw [qe9];exact H)|exact H
            have qn3:=Q1.mk qe9;clear qe9;simp only [Option.some.injEq,Prod.mk.injEq] at H;obtain ⟨rfl,rfl⟩:=H;obtain ⟨qzB,qzV,qAu⟩:=Kd.R_slice HO_13.out;subst qAu;have q69:((G0.length:Int):Int)≤((G0.length:Int):Int):=of_decide_eq_true (by first|(with_reducible assumption)|assumption);obtain ⟨qEt,qoD,_,qth,_⟩:=info_parts WK;have qAz:=Us (P:=Try.prog) 37 3 Try.underlying37 qoD qzB G0.length qzV (Kd.R_reads' HO_13.out).2.1;have qpC:=Kd.R_take (m:=((G0.length:Int):Int).toNat) HO_13.out (by omega);have qtl:qqd.length=((G0.length:Int):Int).toNat:=(by rw [qn3.out,List.length_take];omega);rw [← qn3.out] at qpC
            have qtm:G0.length=qqd.length:=by rw [qtl];omega
            have qzH:=Q1.mk qtm;clear qtl qtm qoD qth HO_13;have qqK:=Q1.mk qpC;clear qpC;replace q69:=eq_true q69
            go_wp2
            go_ret2
            exact ⟨_,by first|rfl|(simp [Qp,Qq]<;>rfl)|(simp [*,Qp,Qq]<;>rfl),qjY (by (with_reducible repeat (first|apply Kd.R_alloc|apply Kd.R_drewN|apply Kd.R_drew));exact qqK.out) _ qzH.out,by repeat (first|(with_reducible first|exact HB.out|apply Q2|apply Q0|apply Q5|refine Q7 ?_ ZN.out|refine Q7 ?_ ZV.out|refine Q7 ?_ O0.out)|exact HB.out)⟩
           rw [if_neg c67] at H
           exact absurd H (by simp)
          rw [if_neg c66] at H
          exact absurd H (by simp)
       replace c32:=Bool.eq_false_iff.mpr c32;subst c32
       have H1:(some (([]:List Int),92))=some (r1,r2):=by rw [if_neg (show ¬ (false=true) by decide)] at H;exact H
       clear H;have H:=H1;clear H1;simp only [Option.some.injEq,Prod.mk.injEq] at H;obtain ⟨rfl,rfl⟩:=H
       go_wp2
       go_ret2
       exact ⟨_,by first|rfl|(simp [Qp,Qq]<;>rfl)|(simp [*,Qp,Qq]<;>rfl),(by first|exact Kd.V_nil _ _ _ _ _|(show Kd.V _ _ _ _ _ (.slice none 0 0) [];exact Kd.V_nil _ _ _ _ _)),by repeat (first|(with_reducible first|exact HB.out|apply Q2|apply Q0|apply Q5|refine Q7 ?_ ZN.out|refine Q7 ?_ ZV.out)|exact HB.out)⟩
end
section
attribute [local go_sem] YH YJ Z0 Z1 Yr Ys YI YK
def YT.l0:Nat→List Int→List Int→Int→Option (Bool)
 | 0,_,_,_=>none
 | k+1,x0,x1,x5=>if x5<(x0.length:Int) then (if 0≤x5 then (if x5<(x1.length:Int) then (if (rd x0 x5)=(rd x1 x5) then (YT.l0 k x0 x1 (wrap64 (x5+1))) else (some false)) else (none)) else (none)) else (some true)
def YT.f (k:Nat) (l0:List Int) (l1:List Int):Option (Bool):=if (l0.length:Int)=(l1.length:Int) then (YT.l0 k l0 l1 0) else (some false)
set_option maxHeartbeats 8000000 in
set_option maxRecDepth 100000 in
theorem YT.calls (k:Nat) (A0:Option Addr) (c0:Nat) (l0:List Int) (A1:Option Addr) (c1:Nat) (l1:List Int) (r:Bool) (w:World) (hr0:Kd.C (Kd.int .i64) w A0 l0.length l0) (hc0:l0.length≤c0) (hr1:Kd.C (Kd.int .i64) w A1 l1.length l1) (hc1:l1.length≤c1) (h:YT.f k l0 l1=some r) :
  Calls Try.prog 27 #[.slice A0 l0.length c0,.slice A1 l1.length c1] w fun e w'=>e = .returned (.bool r)∧Yp w w':=by
 have HR0:=Q1.mk hr0
 have HC0:=Q1.mk hc0
 clear hr0 hc0
 have HR1:=Q1.mk hr1
 have HC1:=Q1.mk hc1
 clear hr1 hc1
 have H:(if (l0.length:Int)=(l1.length:Int) then (YT.l0 k l0 l1 0) else (some false))=some r:=h
 clear h
 by_cases c3:(l0.length:Int)=(l1.length:Int)
 ·
  rw [if_pos c3] at H
  have c3b0:((l0.length:Int)==(l1.length:Int))=true:=beq_iff_eq.mpr c3
  have c3b1:((l0.length:Int) != (l1.length:Int))=false:=bne_eq_false_iff_eq.mpr c3
  have c3b2:(l0.length==l1.length)=true:=by first|simpa using c3|(simp at c3 ⊢;omega)
  clear c3
  have H':=Q1.mk H
  clear H
  go_enter Try.func27,Try.ntmps27
  go_wp2
  repeat (go_quiet (fail);try go_wp2)
  go_loopg [5] k (fun kq v5 w' => ∃ (Zz:Int),v5 = .int .i64 Zz∧Q1 (YT.l0 kq l0 l1 Zz=some r)∧Q1 (kq≤k)∧Yp w w')
  case atStart=>exact ⟨(0),(by first|rfl|(simp;done)|(simp [*];done)),H',⟨Nat.le_refl _⟩,by repeat (first|exact Yp.refl _|apply Yp.step)⟩
  case round =>
   clear H'
   try clear c1
   try clear c2
   try clear p2
   try clear c3
   try clear c3b0
   try clear c3b1
   try clear c3b2
   obtain ⟨Zz,rfl,HA,HK1,⟨m1,rfl⟩⟩:=hrel
   cases gk with
   | zero=>exact absurd HA.out (by simp [YT.l0])
   | succ k1 =>
    have H:=HA.out;clear HA;simp only [YT.l0] at H
    by_cases c4:Zz<(l0.length:Int)
    ·
     rw [if_pos c4] at H;have c4b0:decide (Zz<(l0.length:Int))=true:=decide_eq_true c4;clear c4
     by_cases c5:0≤Zz
     ·
      rw [if_pos c5] at H;have c5b0:decide (0≤Zz)=true:=decide_eq_true c5;clear c5
      by_cases c6:Zz<(l1.length:Int)
      ·
       rw [if_pos c6] at H;have c6b0:decide (Zz<(l1.length:Int))=true:=decide_eq_true c6;clear c6
       by_cases c7:(rd l0 Zz)=(rd l1 Zz)
       ·
        rw [if_pos c7] at H;have c7b0:((rd l0 Zz)==(rd l1 Zz))=true:=beq_iff_eq.mpr c7;have c7b1:((rd l0 Zz) != (rd l1 Zz))=false:=bne_eq_false_iff_eq.mpr c7;clear c7;have H':=Q1.mk H;clear H;have qgZ:0≤(Zz:Int):=of_decide_eq_true (by first|(with_reducible assumption)|assumption);have qhb:Zz<(l0.length:Int):=of_decide_eq_true (by first|(with_reducible assumption)|assumption);obtain ⟨qq9,e185,qm8⟩:=Kd.at_int HR0.out Zz qgZ qhb;cases e185;replace qgZ:=eq_true qgZ;replace qhb:=eq_true qhb;have qg0:0≤(Zz:Int):=of_decide_eq_true (by first|(with_reducible assumption)|assumption);have qhc:Zz<(l1.length:Int):=of_decide_eq_true (by first|(with_reducible assumption)|assumption);obtain ⟨qra,qpg,qm9⟩:=Kd.at_int HR1.out Zz qg0 qhc;cases qpg;replace qg0:=eq_true qg0;replace qhc:=eq_true qhc
        go_wp2
        repeat (go_quiet (fail);try go_wp2)
        go_roundg k1
        case measure=>have:=HK1.out;omega
        case rel=>exact ⟨(wrap64 (Zz+1)),(by first|rfl|(simp;done)|(simp [*];done)),H',⟨by have:=HK1.out;omega⟩,by repeat (first|exact Yp.refl _|apply Yp.step)⟩
       rw [if_neg c7] at H;have c7b0:((rd l0 Zz)==(rd l1 Zz))=false:=beq_eq_false_iff_ne.mpr c7;have c7b1:((rd l0 Zz) != (rd l1 Zz))=true:=bne_iff_ne.mpr c7;obtain rfl:=Option.some.inj H;have qgZ:0≤(Zz:Int):=of_decide_eq_true (by first|(with_reducible assumption)|assumption);have qhb:Zz<(l0.length:Int):=of_decide_eq_true (by first|(with_reducible assumption)|assumption);obtain ⟨qq9,e185,qm8⟩:=Kd.at_int HR0.out Zz qgZ qhb;cases e185;replace qgZ:=eq_true qgZ;replace qhb:=eq_true qhb;have qg0:0≤(Zz:Int):=of_decide_eq_true (by first|(with_reducible assumption)|assumption);have qhc:Zz<(l1.length:Int):=of_decide_eq_true (by first|(with_reducible assumption)|assumption);obtain ⟨qra,qpg,qm9⟩:=Kd.at_int HR1.out Zz qg0 qhc;cases qpg;replace qg0:=eq_true qg0;replace qhc:=eq_true qhc
       go_wp2
       repeat (go_quiet (fail);try go_wp2)
       go_ret
       exact ⟨by first|rfl|(simp;done)|(simp [*];done),by repeat (first|exact Yp.refl _|apply Yp.step)⟩
      rw [if_neg c6] at H
      exact absurd H (by simp)
     rw [if_neg c5] at H
     exact absurd H (by simp)
    rw [if_neg c4] at H;have c4b0:decide (Zz<(l0.length:Int))=false:=decide_eq_false c4;clear c4;obtain rfl:=Option.some.inj H
    go_wp2
    repeat (go_quiet (fail);try go_wp2)
    go_ret
    exact ⟨by first|rfl|(simp;done)|(simp [*];done),by repeat (first|exact Yp.refl _|apply Yp.step)⟩
 rw [if_neg c3] at H
 have c3b0:((l0.length:Int)==(l1.length:Int))=false:=beq_eq_false_iff_ne.mpr c3
 have c3b1:((l0.length:Int) != (l1.length:Int))=true:=bne_iff_ne.mpr c3
 have c3b2:(l0.length==l1.length)=false:=by first|simpa using c3|(simp at c3 ⊢;omega)
 obtain rfl:=Option.some.inj H
 go_enter Try.func27,Try.ntmps27
 go_wp2
 repeat (go_quiet (fail);try go_wp2)
 go_ret
 exact ⟨by first|rfl|(simp;done)|(simp [*];done),by repeat (first|exact Yp.refl _|apply Yp.step)⟩
end
section
attribute [local go_sem] YH YJ Z0 Z1 Yr Ys YI YK
mutual
def Qo.j0:Nat→Int→Bool→List (S39)→List Int→List (List (List Int))→Option (Int)
 | 0,_,_,_,_,_=>none
 | k+1,x3,x4,Zs,ZS,Zy=>Qo.l0 k x3 x4 0 Zs ZS Zy
def Qo.l0:Nat→Int→Bool→Int→List (S39)→List Int→List (List (List Int))→Option (Int)
 | 0,_,_,_,_,_,_=>none
 | k+1,x3,x4,x5,Zs,ZS,Zy=>if x4=true then (Qo.j2 k x3 x4 x5 (decide (x5<x3)) Zs ZS Zy) else (Qo.j2 k x3 x4 x5 false Zs ZS Zy)
def Qo.j2:Nat→Int→Bool→Int→Bool→List (S39)→List Int→List (List (List Int))→Option (Int)
 | 0,_,_,_,_,_,_,_=>none
 | k+1,x3,x4,x5,x35,Zs,ZS,Zy=>if x35=true then (if 0≤x5 then (if x5<(Zs.length:Int) then ((Qn.f k ((Qb Zs x5).f0) ((Qb Zs x5).f1) ((Qb Zs x5).f2) ((Qb Zs x5).f3) ((Qb Zs x5).f4)).bind fun qjt=>(if qjt=true then (if x5<(ZS.length:Int) then ((Qj.f (rd ZS x5) 0 100).bind fun t193=>(Qo.l0 k x3 t193 (wrap64 (x5+1)) Zs ZS Zy)) else (none)) else (Qo.l0 k x3 false (wrap64 (x5+1)) Zs ZS Zy))) else (none)) else (none)) else (Qo.l1 k x3 x4 Zy (Zy.length:Int) 0 Zs ZS Zy)
def Qo.l1:Nat→Int→Bool→List (List (List Int))→Int→Int→List (S39)→List Int→List (List (List Int))→Option (Int)
 | 0,_,_,_,_,_,_,_,_=>none
 | k+1,x3,x4,x54,x55,x56,Zs,ZS,Zy=>if x56<x55 then (if 0≤x56 then (if x56<(x54.length:Int) then (if x4=true then (Qo.j4 k x3 (((QG x54 x56).length:Int)==x3) (QG x54 x56) x54 x55 x56 Zs ZS Zy) else (Qo.j4 k x3 false (QG x54 x56) x54 x55 x56 Zs ZS Zy)) else (none)) else (none)) else (if x4=true then (some 0) else (some 93))
def Qo.j4:Nat→Int→Bool→List (List Int)→List (List (List Int))→Int→Int→List (S39)→List Int→List (List (List Int))→Option (Int)
 | 0,_,_,_,_,_,_,_,_,_=>none
 | k+1,x3,x4,x7,x54,x55,x56,Zs,ZS,Zy=>Qo.l2 k x3 x4 x54 x55 x56 x7 (x7.length:Int) 0 Zs ZS Zy
def Qo.l2:Nat→Int→Bool→List (List (List Int))→Int→Int→List (List Int)→Int→Int→List (S39)→List Int→List (List (List Int))→Option (Int)
 | 0,_,_,_,_,_,_,_,_,_,_,_=>none
 | k+1,x3,x4,x54,x55,x56,x67,x68,x69,Zs,ZS,Zy=>if x69<x68 then (if 0≤x69 then (if x69<(x67.length:Int) then (if x4=true then ((Qj.f ((QW x67 x69).length:Int) 1 10).bind fun t196=>(if t196=true then (if 0<(Zy.length:Int) then (if 0<((QG Zy 0).length:Int) then (Qo.j6 k x3 (((QW x67 x69).length:Int)==((QW (QG Zy 0) 0).length:Int)) (QW x67 x69) x54 x55 x56 x67 x68 x69 Zs ZS Zy) else (none)) else (none)) else (Qo.j6 k x3 false (QW x67 x69) x54 x55 x56 x67 x68 x69 Zs ZS Zy))) else (Qo.j6 k x3 false (QW x67 x69) x54 x55 x56 x67 x68 x69 Zs ZS Zy)) else (none)) else (none)) else (Qo.l1 k x3 x4 x54 x55 (wrap64 (x56+1)) Zs ZS Zy)
def Qo.j6:Nat→Int→Bool→List Int→List (List (List Int))→Int→Int→List (List Int)→Int→Int→List (S39)→List Int→List (List (List Int))→Option (Int)
 | 0,_,_,_,_,_,_,_,_,_,_,_,_=>none
 | k+1,x3,x4,x9,x54,x55,x56,x67,x68,x69,Zs,ZS,Zy=>Qo.l3 k x3 x4 x54 x55 x56 x67 x68 x69 x9 (x9.length:Int) 0 Zs ZS Zy
def Qo.l3:Nat→Int→Bool→List (List (List Int))→Int→Int→List (List Int)→Int→Int→List Int→Int→Int→List (S39)→List Int→List (List (List Int))→Option (Int)
 | 0,_,_,_,_,_,_,_,_,_,_,_,_,_,_=>none
 | k+1,x3,x4,x54,x55,x56,x67,x68,x69,x91,x92,x93,Zs,ZS,Zy=>if x93<x92 then (if 0≤x93 then (if x93<(x91.length:Int) then (if x4=true then ((Qj.f (rd x91 x93) 0 100000).bind fun qhm=>(Qo.l3 k x3 qhm x54 x55 x56 x67 x68 x69 x91 x92 (wrap64 (x93+1)) Zs ZS Zy)) else (Qo.l3 k x3 false x54 x55 x56 x67 x68 x69 x91 x92 (wrap64 (x93+1)) Zs ZS Zy)) else (none)) else (none)) else (Qo.l2 k x3 x4 x54 x55 x56 x67 x68 (wrap64 (x69+1)) Zs ZS Zy)
end
def Qo.f (k:Nat) (Qa:List (S39)) (Qk:List Int) (Qd:List (List (List Int))):Option (Int):=(Qj.f (Qa.length:Int) 1 3).bind fun qjs=>(if qjs=true then (if (Qk.length:Int)=(Qa.length:Int) then ((Qj.f (Qd.length:Int) 1 6).bind fun qcj=>(Qo.j0 k (Qa.length:Int) qcj Qa Qk Qd)) else (Qo.j0 k (Qa.length:Int) false Qa Qk Qd)) else (Qo.j0 k (Qa.length:Int) false Qa Qk Qd))
set_option maxHeartbeats 8000000 in
set_option maxRecDepth 100000 in
theorem Qo.calls (k:Nat) (Y3:Option Addr) (QH:Nat) (Qa:List (S39)) (Y0:Option Addr) (QJ:Nat) (Qk:List Int) (Y5:Option Addr) (QL:Nat) (Qd:List (List (List Int))) (r:Int) (w:World) (Gp:Kd.C k39 w Y3 Qa.length Qa) (Gz:Qa.length≤QH) (Gq:Kd.C (Kd.int .i64) w Y0 Qk.length Qk) (GA:Qk.length≤QJ) (Gr:Kd.C (Kd.slice 37 (Kd.slice 3 (Kd.int .i64))) w Y5 Qd.length Qd) (GC:Qd.length≤QL) (h:Qo.f k Qa Qk Qd=some r) :
  Calls Try.prog 30 #[.agg #[.slice Y3 Qa.length QH,.slice Y0 Qk.length QJ,.slice Y5 Qd.length QL]] w fun e w'=>e = .returned (.int .i64 r)∧Below w.heap.size w w':=by
 have qpD:=Try.underlying47
 have qm3:=Try.underlying39
 have qkK:=Try.underlying111
 have Jq:=Q1.mk Gp
 have JI:=Q1.mk Gz
 clear Gp Gz
 have JA:=Q1.mk Gq
 have JJ:=Q1.mk GA
 clear Gq GA
 have JC:=Q1.mk Gr
 have JK:=Q1.mk GC
 clear Gr GC
 have HB:=Q1.mk (Below.refl w.heap.size w)
 have H:((Qj.f (Qa.length:Int) 1 3).bind fun qjs=>(if qjs=true then (if (Qk.length:Int)=(Qa.length:Int) then ((Qj.f (Qd.length:Int) 1 6).bind fun qcj=>(Qo.j0 k (Qa.length:Int) qcj Qa Qk Qd)) else (Qo.j0 k (Qa.length:Int) false Qa Qk Qd)) else (Qo.j0 k (Qa.length:Int) false Qa Qk Qd)))=some r:=h
 clear h
 have HC2:=Q1.mk H
 clear H
 go_enter Try.func30,Try.ntmps30
 go_upto_region 2 with (first|((with_reducible refine QO (N:=1) rfl ?_);(try (refine Gn (by rfl) ?_;dsimp only));refine Yg ?hg (N:=1) ?hd (cs:=#[.slice Y3 Qa.length QH,.slice Y0 Qk.length QJ,.slice Y5 Qd.length QL]) (t:=47) ?hr ?_;(case hd=>rfl);(case hg=>rfl);(case hr=>first|(go_simp;done)|(go_simp;rfl));intro Jh hg w3 hbox hb;have n0_:=Q1.mk (Qh (by repeat (first|(with_reducible first|exact HB.out|apply Q2|apply Q0|apply Q5)|exact HB.out)) hb);have n1_:=Q1.mk (hbox);have n2_:=Q1.mk ((by rw [hg];exact (Qe (by repeat (first|(with_reducible first|exact HB.out|apply Q2|apply Q0|apply Q5)|exact HB.out))):w.heap.size≤Jh));have n3_:=n2_;clear HB;have HB:=n0_;have YE:=n1_;have qBq:=n2_;have G7:=n3_;clear n0_ n1_ n2_ n3_ hb hbox hg;have GD:w3.cell? ⟨Jh,0,none⟩=some (.slice Y3 Qa.length QH):=(Q8 YE.out 0).trans rfl;have GE:w3.cell? ⟨Jh,1,none⟩=some (.slice Y0 Qk.length QJ):=(Q8 YE.out 1).trans rfl;have K0:w3.cell? ⟨Jh,2,none⟩=some (.slice Y5 Qd.length QL):=(Q8 YE.out 2).trans rfl;have GF:=Q9 YE.out 0;have GG:=Q9 YE.out 1;have Kb:=Q9 YE.out 2))
 (try simp only [Act.put,List.setIfInBounds_toArray,List.set_cons_zero,List.set_cons_succ])
 go_cut [4] (fun v4 wc => ∃ (kq:Nat) (qai:Bool),v4 = .bool qai∧Q1 (Qo.j0 kq (Qa.length:Int) qai Qa Qk Qd=some r)∧Q1 (kq≤k)∧Q1 (wc.heap[Jh]? = some (.cells #[(.slice Y3 Qa.length QH),(.slice Y0 Qk.length QJ),(.slice Y5 Qd.length QL)] 47 (0,0)))∧Q1 (Below w.heap.size w wc))
 case first =>
  have H:=HC2.out
  clear HC2
  replace H:=Option.bind_eq_some_iff.mp H
  obtain ⟨qjs,A50,H⟩:=H
  replace H:(if qjs=true then (if (Qk.length:Int)=(Qa.length:Int) then ((Qj.f (Qd.length:Int) 1 6).bind fun qcj=>(Qo.j0 k (Qa.length:Int) qcj Qa Qk Qd)) else (Qo.j0 k (Qa.length:Int) false Qa Qk Qd)) else (Qo.j0 k (Qa.length:Int) false Qa Qk Qd))=some r:=H
  have A5:=Q1.mk A50
  clear A50
  by_cases c6:qjs=true
  ·
   subst c6
   have H1:(if (Qk.length:Int)=(Qa.length:Int) then ((Qj.f (Qd.length:Int) 1 6).bind fun qcj=>(Qo.j0 k (Qa.length:Int) qcj Qa Qk Qd)) else (Qo.j0 k (Qa.length:Int) false Qa Qk Qd))=some r:=by rw [if_pos rfl] at H;exact H
   clear H
   have H:=H1
   clear H1
   by_cases c7:(Qk.length:Int)=(Qa.length:Int)
   ·
    rw [if_pos c7] at H;have c7b0:((Qk.length:Int)==(Qa.length:Int))=true:=beq_iff_eq.mpr c7;have c7b1:((Qk.length:Int) != (Qa.length:Int))=false:=bne_eq_false_iff_eq.mpr c7
    have c7b2:(Qk.length==Qa.length)=true:=by first|simpa using c7|(simp at c7 ⊢;omega)
    clear c7
    (first|rw [c7b0]|(simp only [Yh,Yk];rw [c7b0])|skip)
    replace H:=Option.bind_eq_some_iff.mp H;obtain ⟨qcj,A80,H⟩:=H;replace H:(Qo.j0 k (Qa.length:Int) qcj Qa Qk Qd)=some r:=H;have A8:=Q1.mk A80;clear A80;have H':=Q1.mk H;clear H
    go_wp2_with (first|((with_reducible refine Qs (f:=65) rfl ?_);refine Yj (some 16) rfl rfl Try.func65 (by kernel_rfl) rfl #[.int .i64 (Qa.length:Int),.int .i64 1,.int .i64 3] rfl (by (try simp only [List.map_toArray,List.map_cons,List.map_nil]);first|done|rfl|(simp only [List.length_drop,List.length_take];rfl)) ?_;(with_reducible refine (Qj.calls (Qa.length:Int) 1 3 true _ A5.out).mono ?_);rintro e w' ⟨rfl,⟨nd,rfl⟩⟩;refine ⟨_,rfl,?_⟩;have K1:w3.cell? ⟨Jh,0,none⟩=some (.slice Y3 Qa.length QH):=(Q8 YE.out 0).trans rfl;have K2:w3.cell? ⟨Jh,1,none⟩=some (.slice Y0 Qk.length QJ):=(Q8 YE.out 1).trans rfl;have Ka:w3.cell? ⟨Jh,2,none⟩=some (.slice Y5 Qd.length QL):=(Q8 YE.out 2).trans rfl;have Ke:=Q9 YE.out 0;have Kf:=Q9 YE.out 1;have Kg:=Q9 YE.out 2)|(go_at_call 65;(with_reducible refine (Qj.calls (Qd.length:Int) 1 6 qcj _ A8.out).mono ?_);rintro e w' ⟨rfl,⟨nd,rfl⟩⟩))
    go_meet
    case rel=>exact ⟨_,(qcj),(by first|rfl|(simp;done)|(simp [*];done)),H',⟨by first|omega|exact Nat.le_refl _⟩,⟨by (with_reducible repeat (first|refine Q4 ?_ _|refine Q6 ?_|refine Q3 ?_ _));exact YE.out⟩,⟨by repeat (first|(with_reducible first|exact HB.out|apply Q2|apply Q0|apply Q5|refine Q7 ?_ G7.out)|exact HB.out)⟩⟩
   rw [if_neg c7] at H
   have c7b0:((Qk.length:Int)==(Qa.length:Int))=false:=beq_eq_false_iff_ne.mpr c7
   have c7b1:((Qk.length:Int) != (Qa.length:Int))=true:=bne_iff_ne.mpr c7
   have c7b2:(Qk.length==Qa.length)=false:=by first|simpa using c7|(simp at c7 ⊢;omega)
   (first|rw [c7b0]|(simp only [Yh,Yk];rw [c7b0])|skip)
   have H':=Q1.mk H
   clear H
   go_wp2_with (first|((with_reducible refine Qs (f:=65) rfl ?_);refine Yj (some 16) rfl rfl Try.func65 (by kernel_rfl) rfl #[.int .i64 (Qa.length:Int),.int .i64 1,.int .i64 3] rfl (by (try simp only [List.map_toArray,List.map_cons,List.map_nil]);first|done|rfl|(simp only [List.length_drop,List.length_take];rfl)) ?_;(with_reducible refine (Qj.calls (Qa.length:Int) 1 3 true _ A5.out).mono ?_);rintro e w' ⟨rfl,⟨nd,rfl⟩⟩;refine ⟨_,rfl,?_⟩;have Gb:w3.cell? ⟨Jh,0,none⟩=some (.slice Y3 Qa.length QH):=(Q8 YE.out 0).trans rfl;have Gc:w3.cell? ⟨Jh,1,none⟩=some (.slice Y0 Qk.length QJ):=(Q8 YE.out 1).trans rfl;have GK:w3.cell? ⟨Jh,2,none⟩=some (.slice Y5 Qd.length QL):=(Q8 YE.out 2).trans rfl;have Gd:=Q9 YE.out 0;have Ge:=Q9 YE.out 1;have GL:=Q9 YE.out 2))
   go_meet
   case rel=>exact ⟨_,(false),(by first|rfl|(simp;done)|(simp [*];done)),H',⟨by first|omega|exact Nat.le_refl _⟩,⟨by (with_reducible repeat (first|refine Q4 ?_ _|refine Q6 ?_|refine Q3 ?_ _));exact YE.out⟩,⟨by repeat (first|(with_reducible first|exact HB.out|apply Q2|apply Q0|apply Q5|refine Q7 ?_ G7.out)|exact HB.out)⟩⟩
  replace c6:=Bool.eq_false_iff.mpr c6
  subst c6
  have H1:(Qo.j0 k (Qa.length:Int) false Qa Qk Qd)=some r:=by rw [if_neg (show ¬ (false=true) by decide)] at H;exact H
  clear H
  have H:=H1
  clear H1
  have H':=Q1.mk H
  clear H
  go_wp2_with (first|((with_reducible refine Qs (f:=65) rfl ?_);refine Yj (some 16) rfl rfl Try.func65 (by kernel_rfl) rfl #[.int .i64 (Qa.length:Int),.int .i64 1,.int .i64 3] rfl (by (try simp only [List.map_toArray,List.map_cons,List.map_nil]);first|done|rfl|(simp only [List.length_drop,List.length_take];rfl)) ?_;(with_reducible refine (Qj.calls (Qa.length:Int) 1 3 false _ A5.out).mono ?_);rintro e w' ⟨rfl,⟨nd,rfl⟩⟩;refine ⟨_,rfl,?_⟩))
  go_meet
  case rel=>exact ⟨_,(false),(by first|rfl|(simp;done)|(simp [*];done)),H',⟨by first|omega|exact Nat.le_refl _⟩,⟨by (with_reducible repeat (first|refine Q4 ?_ _|refine Q6 ?_|refine Q3 ?_ _));exact YE.out⟩,⟨by repeat (first|(with_reducible first|exact HB.out|apply Q2|apply Q0|apply Q5|refine Q7 ?_ G7.out)|exact HB.out)⟩⟩
 case rest =>
  clear HC2
  try clear p2
  try clear c3
  try clear c6
  try clear c7
  try clear c7b0
  try clear c7b1
  try clear c7b2
  try clear Gb
  try clear Gc
  try clear GK
  try clear GD
  try clear GE
  try clear K0
  try clear K1
  try clear K2
  try clear Ka
  try clear Gd
  try clear Ge
  try clear GL
  try clear GF
  try clear GG
  try clear Kb
  try clear Ke
  try clear Kf
  try clear Kg
  obtain ⟨kq,qai,rfl,HA,HJ1,YE,HB⟩:=hcut
  cases kq with
  | zero=>exact absurd HA.out (by simp [Qo.j0])
  | succ kj1 =>
   have H:=HA.out
   clear HA
   simp only [Qo.j0] at H
   have H':=Q1.mk H
   clear H
   go_wp2
   go_loopg [4,5] kj1 (fun kq v4 v5 w' => ∃ (OA:Bool) (Yd:Int),v4 = .bool OA∧v5 = .int .i64 Yd∧Q1 (Qo.l0 kq (Qa.length:Int) OA Yd Qa Qk Qd=some r)∧Q1 (kq≤kj1)∧Q1 (w'.heap[Jh]? = some (.cells #[(.slice Y3 Qa.length QH),(.slice Y0 Qk.length QJ),(.slice Y5 Qd.length QL)] 47 (0,0)))∧Q1 (Below w.heap.size w w'))
   case atStart=>exact ⟨(qai),(0),(by first|rfl|(simp;done)|(simp [*];done)),(by first|rfl|(simp;done)|(simp [*];done)),H',⟨Nat.le_refl _⟩,⟨by (with_reducible repeat (first|refine Q4 ?_ _|refine Q6 ?_|refine Q3 ?_ _));exact YE.out⟩,⟨by repeat (first|(with_reducible first|exact HB.out|apply Q2|apply Q0|apply Q5|refine Q7 ?_ G7.out)|exact HB.out)⟩⟩
   case round =>
    clear H';(try clear p2);(try clear c3);(try clear c6);(try clear c7);(try clear c7b0);(try clear c7b1);(try clear c7b2);(try clear Gb);(try clear Gc);(try clear GK);(try clear GD);(try clear GE);(try clear K0);(try clear K1);(try clear K2);(try clear Ka);(try clear Gd);(try clear Ge);(try clear GL);(try clear GF);(try clear GG);(try clear Kb);(try clear Ke);(try clear Kf);(try clear Kg);(try clear p2);obtain ⟨OA,Yd,rfl,rfl,HA,HK2,YE,HB⟩:=hrel
    cases gk with
    | zero=>exact absurd HA.out (by simp [Qo.l0])
    | succ k2 =>
     have H:=HA.out;clear HA;simp only [Qo.l0] at H;have qoV:=Q1.mk H;clear H
     go_upto_region 4 with (fail)
     go_cut [35] (fun v35 wc => ∃ (kq:Nat) (qeC:Bool),v35 = .bool qeC∧Q1 (Qo.j2 kq (Qa.length:Int) OA Yd qeC Qa Qk Qd=some r)∧Q1 (kq≤k2)∧Q1 (wc.heap[Jh]? = some (.cells #[(.slice Y3 Qa.length QH),(.slice Y0 Qk.length QJ),(.slice Y5 Qd.length QL)] 47 (0,0)))∧Q1 (Below w.heap.size w wc))
     case first =>
      have H:=qoV.out;clear qoV
      by_cases c12:OA=true
      ·
       subst c12
       have H1:(Qo.j2 k2 (Qa.length:Int) true Yd (decide (Yd<(Qa.length:Int))) Qa Qk Qd)=some r:=by rw [if_pos rfl] at H;exact H
       clear H;have H:=H1;clear H1;have H':=Q1.mk H;clear H
       go_wp2
       go_meet
       case rel=>exact ⟨_,(decide (Yd<(Qa.length:Int))),(by first|rfl|(simp;done)|(simp [*];done)),H',⟨by have:=HJ1.out;have:=HK2.out;first|omega|exact Nat.le_refl _⟩,⟨by (with_reducible repeat (first|refine Q4 ?_ _|refine Q6 ?_|refine Q3 ?_ _));exact YE.out⟩,⟨by repeat (first|(with_reducible first|exact HB.out|apply Q2|apply Q0|apply Q5|refine Q7 ?_ G7.out)|exact HB.out)⟩⟩
      replace c12:=Bool.eq_false_iff.mpr c12;subst c12
      have H1:(Qo.j2 k2 (Qa.length:Int) false Yd false Qa Qk Qd)=some r:=by rw [if_neg (show ¬ (false=true) by decide)] at H;exact H
      clear H;have H:=H1;clear H1;have H':=Q1.mk H;clear H
      go_wp2
      go_meet
      case rel=>exact ⟨_,(false),(by first|rfl|(simp;done)|(simp [*];done)),H',⟨by have:=HJ1.out;have:=HK2.out;first|omega|exact Nat.le_refl _⟩,⟨by (with_reducible repeat (first|refine Q4 ?_ _|refine Q6 ?_|refine Q3 ?_ _));exact YE.out⟩,⟨by repeat (first|(with_reducible first|exact HB.out|apply Q2|apply Q0|apply Q5|refine Q7 ?_ G7.out)|exact HB.out)⟩⟩
     case rest =>
      clear qoV;(try clear c1);(try clear p2);(try clear c3);(try clear c6);(try clear c7);(try clear c7b0);(try clear c7b1);(try clear c7b2);(try clear c12);(try clear Gb);(try clear Gc);(try clear GK);(try clear GD);(try clear GE);(try clear K0);(try clear K1);(try clear K2);(try clear Ka);(try clear Gd);(try clear Ge);(try clear GL);(try clear GF);(try clear GG);(try clear Kb);(try clear Ke);(try clear Kf);(try clear Kg);(try clear p2);obtain ⟨kq,qeC,rfl,HA,UY,YE,HB⟩:=hcut
      cases kq with
      | zero=>exact absurd HA.out (by simp [Qo.j2])
      | succ WU =>
       have H:=HA.out;clear HA;simp only [Qo.j2] at H
       by_cases c13:qeC=true
       ·
        subst c13
        have H1:(if 0≤Yd then (if Yd<(Qa.length:Int) then ((Qn.f WU ((Qb Qa Yd).f0) ((Qb Qa Yd).f1) ((Qb Qa Yd).f2) ((Qb Qa Yd).f3) ((Qb Qa Yd).f4)).bind fun qjt=>(if qjt=true then (if Yd<(Qk.length:Int) then ((Qj.f (rd Qk Yd) 0 100).bind fun t193=>(Qo.l0 WU (Qa.length:Int) t193 (wrap64 (Yd+1)) Qa Qk Qd)) else (none)) else (Qo.l0 WU (Qa.length:Int) false (wrap64 (Yd+1)) Qa Qk Qd))) else (none)) else (none))=some r:=by rw [if_pos rfl] at H;exact H
        clear H;have H:=H1;clear H1
        by_cases c14:0≤Yd
        ·
         rw [if_pos c14] at H;have c14b0:decide (0≤Yd)=true:=decide_eq_true c14;clear c14
         by_cases c15:Yd<(Qa.length:Int)
         ·
          rw [if_pos c15] at H;have c15b0:decide (Yd<(Qa.length:Int))=true:=decide_eq_true c15;clear c15;replace H:=Option.bind_eq_some_iff.mp H;obtain ⟨qjt,qqi,H⟩:=H;replace H:(if qjt=true then (if Yd<(Qk.length:Int) then ((Qj.f (rd Qk Yd) 0 100).bind fun t193=>(Qo.l0 WU (Qa.length:Int) t193 (wrap64 (Yd+1)) Qa Qk Qd)) else (none)) else (Qo.l0 WU (Qa.length:Int) false (wrap64 (Yd+1)) Qa Qk Qd))=some r:=H;have A16:=Q1.mk qqi;clear qqi
          by_cases c17:qjt=true
          ·
           subst c17
           have H1:(if Yd<(Qk.length:Int) then ((Qj.f (rd Qk Yd) 0 100).bind fun t193=>(Qo.l0 WU (Qa.length:Int) t193 (wrap64 (Yd+1)) Qa Qk Qd)) else (none))=some r:=by rw [if_pos rfl] at H;exact H
           clear H;have H:=H1;clear H1
           by_cases c18:Yd<(Qk.length:Int)
           ·
            rw [if_pos c18] at H;have c18b0:decide (Yd<(Qk.length:Int))=true:=decide_eq_true c18;clear c18;replace H:=Option.bind_eq_some_iff.mp H;obtain ⟨t193,qqj,H⟩:=H;replace H:(Qo.l0 WU (Qa.length:Int) t193 (wrap64 (Yd+1)) Qa Qk Qd)=some r:=H;have A19:=Q1.mk qqj;clear qqj;have H':=Q1.mk H;clear H;have Xn:wc.cell? ⟨Jh,0,none⟩=some (.slice Y3 Qa.length QH):=(Q8 YE.out 0).trans rfl;have Xo:wc.cell? ⟨Jh,1,none⟩=some (.slice Y0 Qk.length QJ):=(Q8 YE.out 1).trans rfl;have Xp:wc.cell? ⟨Jh,2,none⟩=some (.slice Y5 Qd.length QL):=(Q8 YE.out 2).trans rfl;have Xy:=Q9 YE.out 0;have Xz:=Q9 YE.out 1;have XA:=Q9 YE.out 2;have qaV:0≤(Yd:Int):=of_decide_eq_true (by first|(with_reducible assumption)|assumption);have qaW:Yd<(Qa.length:Int):=of_decide_eq_true (by first|(with_reducible assumption)|assumption);obtain ⟨qhS,qgh,qgt,qgi,qgu,qgj,qgv,e190,GM,GN,GQ,GR,GT,XN,XI,XO,XJ,XP,XK⟩:=qgq Jq.out Yd qaV qaW;cases e190;replace GM:=(HB.out.cell (World.block_lt_of_cell? w _ GM)).trans GM;replace GN:=(HB.out.cell (World.block_lt_of_cell? w _ GN)).trans GN;replace GQ:=(HB.out.cell (World.block_lt_of_cell? w _ GQ)).trans GQ;replace GR:=(HB.out.cell (World.block_lt_of_cell? w _ GR)).trans GR;replace GT:=(HB.out.cell (World.block_lt_of_cell? w _ GT)).trans GT;have qdj:=Q1.mk XI;have qdf:=Q1.mk XN;clear XI XN;have qdk:=Q1.mk XJ;have qdg:=Q1.mk XO;clear XJ XO;have qdl:=Q1.mk XK;have qdh:=Q1.mk XP;clear XK XP;replace qaV:=eq_true qaV;replace qaW:=eq_true qaW
            go_wp2_with (first|((with_reducible refine Qs (f:=76) rfl ?_);refine Yj (some 44) rfl rfl Try.func76 (by kernel_rfl) rfl #[.agg #[.slice qgh ((Qb Qa Yd).f0).length qgt,.slice qgi ((Qb Qa Yd).f1).length qgu,.slice qgj ((Qb Qa Yd).f2).length qgv,.int .i64 ((Qb Qa Yd).f3),.int .i64 ((Qb Qa Yd).f4)]] rfl (by (try simp only [List.map_toArray,List.map_cons,List.map_nil]);first|done|rfl|(simp only [List.length_drop,List.length_take];rfl)) ?_;(with_reducible refine (Qn.calls WU _ _ ((Qb Qa Yd).f0) _ _ ((Qb Qa Yd).f1) _ _ ((Qb Qa Yd).f2) ((Qb Qa Yd).f3) ((Qb Qa Yd).f4) true _ ?side1 ?side2 ?side3 ?side4 ?side5 ?side6 A16.out).mono ?_);(case side1=>repeat (first|exact (Kd.C_below qdj.out HB.out)|(with_reducible refine Kd.C_alloc ?_ _)|(with_reducible refine Kd.C_drewN ?_ _)|(with_reducible refine Kd.C_drew ?_)));(case side2=>exact qdf.out);(case side3=>repeat (first|exact (Kd.C_below qdk.out HB.out)|(with_reducible refine Kd.C_alloc ?_ _)|(with_reducible refine Kd.C_drewN ?_ _)|(with_reducible refine Kd.C_drew ?_)));(case side4=>exact qdg.out);(case side5=>repeat (first|exact (Kd.C_below qdl.out HB.out)|(with_reducible refine Kd.C_alloc ?_ _)|(with_reducible refine Kd.C_drewN ?_ _)|(with_reducible refine Kd.C_drew ?_)));(case side6=>exact qdh.out);rintro e w21 ⟨rfl,hb⟩;refine ⟨_,rfl,?_⟩;have n0_:=Q1.mk (Qf (g:=Jh) (by (with_reducible repeat (first|refine Q4 ?_ _|refine Q6 ?_|refine Q3 ?_ _));exact YE.out) hb);have n1_:=Q1.mk (Qh (by repeat (first|(with_reducible first|exact HB.out|apply Q2|apply Q0|apply Q5|refine Q7 ?_ G7.out)|exact HB.out)) hb);clear YE HB;have YE:=n0_;have HB:=n1_;clear n0_ n1_;(try clear hb);(try clear hb2);(try clear hk);(try clear hi);have Wn:w21.cell? ⟨Jh,0,none⟩=some (.slice (some qhS) Qa.length QH):=(Q8 YE.out 0).trans rfl;have Wo:w21.cell? ⟨Jh,1,none⟩=some (.slice Y0 Qk.length QJ):=(Q8 YE.out 1).trans rfl;have Wp:w21.cell? ⟨Jh,2,none⟩=some (.slice Y5 Qd.length QL):=(Q8 YE.out 2).trans rfl;have Wq:=Q9 YE.out 0;have Wr:=Q9 YE.out 1;have Ws:=Q9 YE.out 2;have qfK:0≤(Yd:Int):=of_decide_eq_true (by first|(with_reducible assumption)|assumption);have qfM:Yd<(Qk.length:Int):=of_decide_eq_true (by first|(with_reducible assumption)|assumption);obtain ⟨qBC,qzZ,U5⟩:=Kd.at_int JA.out Yd qfK qfM;cases qzZ;replace U5:=(HB.out.cell (World.block_lt_of_cell? w _ U5)).trans U5;replace qfK:=eq_true qfK;replace qfM:=eq_true qfM)|(go_at_call 65;(with_reducible refine (Qj.calls (rd Qk Yd) 0 100 t193 _ A19.out).mono ?_);rintro e w' ⟨rfl,⟨nd,rfl⟩⟩))
            go_roundg WU
            case measure=>have:=HJ1.out;have:=HK2.out;have:=UY.out;omega
            case rel=>exact ⟨(t193),(wrap64 (Yd+1)),(by first|rfl|(simp;done)|(simp [*];done)),(by first|rfl|(simp;done)|(simp [*];done)),H',⟨by have:=HJ1.out;have:=HK2.out;have:=UY.out;omega⟩,⟨by (with_reducible repeat (first|refine Q4 ?_ _|refine Q6 ?_|refine Q3 ?_ _));exact YE.out⟩,⟨by repeat (first|(with_reducible first|exact HB.out|apply Q2|apply Q0|apply Q5|refine Q7 ?_ G7.out)|exact HB.out)⟩⟩
           rw [if_neg c18] at H
           exact absurd H (by simp)
          replace c17:=Bool.eq_false_iff.mpr c17;subst c17
          have H1:(Qo.l0 WU (Qa.length:Int) false (wrap64 (Yd+1)) Qa Qk Qd)=some r:=by rw [if_neg (show ¬ (false=true) by decide)] at H;exact H
          clear H;have H:=H1;clear H1;have H':=Q1.mk H;clear H;have Xq:wc.cell? ⟨Jh,0,none⟩=some (.slice Y3 Qa.length QH):=(Q8 YE.out 0).trans rfl;have Xr:wc.cell? ⟨Jh,1,none⟩=some (.slice Y0 Qk.length QJ):=(Q8 YE.out 1).trans rfl;have Xs:wc.cell? ⟨Jh,2,none⟩=some (.slice Y5 Qd.length QL):=(Q8 YE.out 2).trans rfl;have XB:=Q9 YE.out 0;have XC:=Q9 YE.out 1;have XD:=Q9 YE.out 2;have qaV:0≤(Yd:Int):=of_decide_eq_true (by first|(with_reducible assumption)|assumption);have qaW:Yd<(Qa.length:Int):=of_decide_eq_true (by first|(with_reducible assumption)|assumption);obtain ⟨qhS,qgh,qgt,qgi,qgu,qgj,qgv,e190,GM,GN,GQ,GR,GT,XN,XI,XO,XJ,XP,XK⟩:=qgq Jq.out Yd qaV qaW;cases e190;replace GM:=(HB.out.cell (World.block_lt_of_cell? w _ GM)).trans GM;replace GN:=(HB.out.cell (World.block_lt_of_cell? w _ GN)).trans GN;replace GQ:=(HB.out.cell (World.block_lt_of_cell? w _ GQ)).trans GQ;replace GR:=(HB.out.cell (World.block_lt_of_cell? w _ GR)).trans GR;replace GT:=(HB.out.cell (World.block_lt_of_cell? w _ GT)).trans GT;have qdj:=Q1.mk XI;have qdf:=Q1.mk XN;clear XI XN;have qdk:=Q1.mk XJ;have qdg:=Q1.mk XO;clear XJ XO;have qdl:=Q1.mk XK;have qdh:=Q1.mk XP;clear XK XP;replace qaV:=eq_true qaV;replace qaW:=eq_true qaW
          go_wp2_with (first|((with_reducible refine Qs (f:=76) rfl ?_);refine Yj (some 44) rfl rfl Try.func76 (by kernel_rfl) rfl #[.agg #[.slice qgh ((Qb Qa Yd).f0).length qgt,.slice qgi ((Qb Qa Yd).f1).length qgu,.slice qgj ((Qb Qa Yd).f2).length qgv,.int .i64 ((Qb Qa Yd).f3),.int .i64 ((Qb Qa Yd).f4)]] rfl (by (try simp only [List.map_toArray,List.map_cons,List.map_nil]);first|done|rfl|(simp only [List.length_drop,List.length_take];rfl)) ?_;(with_reducible refine (Qn.calls WU _ _ ((Qb Qa Yd).f0) _ _ ((Qb Qa Yd).f1) _ _ ((Qb Qa Yd).f2) ((Qb Qa Yd).f3) ((Qb Qa Yd).f4) false _ ?side1 ?side2 ?side3 ?side4 ?side5 ?side6 A16.out).mono ?_);(case side1=>repeat (first|exact (Kd.C_below qdj.out HB.out)|(with_reducible refine Kd.C_alloc ?_ _)|(with_reducible refine Kd.C_drewN ?_ _)|(with_reducible refine Kd.C_drew ?_)));(case side2=>exact qdf.out);(case side3=>repeat (first|exact (Kd.C_below qdk.out HB.out)|(with_reducible refine Kd.C_alloc ?_ _)|(with_reducible refine Kd.C_drewN ?_ _)|(with_reducible refine Kd.C_drew ?_)));(case side4=>exact qdg.out);(case side5=>repeat (first|exact (Kd.C_below qdl.out HB.out)|(with_reducible refine Kd.C_alloc ?_ _)|(with_reducible refine Kd.C_drewN ?_ _)|(with_reducible refine Kd.C_drew ?_)));(case side6=>exact qdh.out);rintro e w24 ⟨rfl,hb⟩;refine ⟨_,rfl,?_⟩;have n0_:=Q1.mk (Qf (g:=Jh) (by (with_reducible repeat (first|refine Q4 ?_ _|refine Q6 ?_|refine Q3 ?_ _));exact YE.out) hb);have n1_:=Q1.mk (Qh (by repeat (first|(with_reducible first|exact HB.out|apply Q2|apply Q0|apply Q5|refine Q7 ?_ G7.out)|exact HB.out)) hb);clear YE HB;have YE:=n0_;have HB:=n1_;clear n0_ n1_;(try clear hb);(try clear hb2);(try clear hk);(try clear hi)))
          go_roundg WU
          case measure=>have:=HJ1.out;have:=HK2.out;have:=UY.out;omega
          case rel=>exact ⟨(false),(wrap64 (Yd+1)),(by first|rfl|(simp;done)|(simp [*];done)),(by first|rfl|(simp;done)|(simp [*];done)),H',⟨by have:=HJ1.out;have:=HK2.out;have:=UY.out;omega⟩,⟨by (with_reducible repeat (first|refine Q4 ?_ _|refine Q6 ?_|refine Q3 ?_ _));exact YE.out⟩,⟨by repeat (first|(with_reducible first|exact HB.out|apply Q2|apply Q0|apply Q5|refine Q7 ?_ G7.out)|exact HB.out)⟩⟩
         rw [if_neg c15] at H
         exact absurd H (by simp)
        rw [if_neg c14] at H
        exact absurd H (by simp)
       replace c13:=Bool.eq_false_iff.mpr c13;subst c13
       have H1:(Qo.l1 WU (Qa.length:Int) OA Qd (Qd.length:Int) 0 Qa Qk Qd)=some r:=by rw [if_neg (show ¬ (false=true) by decide)] at H;exact H
       clear H;have H:=H1;clear H1;have H':=Q1.mk H;clear H;have Xt:wc.cell? ⟨Jh,0,none⟩=some (.slice Y3 Qa.length QH):=(Q8 YE.out 0).trans rfl;have Xu:wc.cell? ⟨Jh,1,none⟩=some (.slice Y0 Qk.length QJ):=(Q8 YE.out 1).trans rfl;have Xv:wc.cell? ⟨Jh,2,none⟩=some (.slice Y5 Qd.length QL):=(Q8 YE.out 2).trans rfl;have XE:=Q9 YE.out 0;have XF:=Q9 YE.out 1;have XG:=Q9 YE.out 2
       go_wp2
       go_loopg [4,56] WU (fun kq v4 v56 w' => ∃ (qld:Bool) (Ym:Int),v4 = .bool qld∧v56 = .int .i64 Ym∧Q1 (Qo.l1 kq (Qa.length:Int) qld Qd (Qd.length:Int) Ym Qa Qk Qd=some r)∧Q1 (kq≤WU)∧Q1 (w'.heap[Jh]? = some (.cells #[(.slice Y3 Qa.length QH),(.slice Y0 Qk.length QJ),(.slice Y5 Qd.length QL)] 47 (0,0)))∧Q1 (Below w.heap.size w w'))
       case atStart=>exact ⟨(OA),(0),(by first|rfl|(simp;done)|(simp [*];done)),(by first|rfl|(simp;done)|(simp [*];done)),H',⟨Nat.le_refl _⟩,⟨by (with_reducible repeat (first|refine Q4 ?_ _|refine Q6 ?_|refine Q3 ?_ _));exact YE.out⟩,⟨by repeat (first|(with_reducible first|exact HB.out|apply Q2|apply Q0|apply Q5|refine Q7 ?_ G7.out)|exact HB.out)⟩⟩
       case round =>
        clear H';(try clear c1);(try clear p1);(try clear q1);(try clear hx1);(try clear p2);(try clear c3);(try clear c6);(try clear p6);(try clear c7);(try clear c7b0);(try clear c7b1);(try clear c7b2);(try clear c12);(try clear c13);(try clear c14);(try clear c14b0);(try clear c15);(try clear c15b0);(try clear c17);(try clear c18);(try clear c18b0);(try clear c19);(try clear p19);(try clear q19);(try clear qna);(try clear Gb);(try clear Gc);(try clear GK);(try clear Xn);(try clear Xo);(try clear Xp);(try clear Wn);(try clear Wo);(try clear Wp);(try clear Xq);(try clear Xr);(try clear Xs);(try clear Xt);(try clear Xu);(try clear Xv);(try clear GD);(try clear GE);(try clear K0);(try clear K1);(try clear K2);(try clear Ka);(try clear Gd);(try clear Ge);(try clear GL);(try clear Xy);(try clear Xz);(try clear XA);(try clear Wq);(try clear Wr);(try clear Ws);(try clear XB);(try clear XC);(try clear XD);(try clear XE);(try clear XF);(try clear XG);(try clear GF);(try clear GG);(try clear Kb);(try clear Ke);(try clear Kf);(try clear Kg);(try clear GM);(try clear GN);(try clear GQ);(try clear GR);(try clear GT);(try clear U5);(try clear qaV);(try clear qfK);(try clear p2);(try clear qaW);(try clear qfM);obtain ⟨qld,Ym,rfl,rfl,HA,HK4,YE,HB⟩:=hrel
        cases gk with
        | zero=>exact absurd HA.out (by simp [Qo.l1])
        | succ k4 =>
         have H:=HA.out;clear HA;simp only [Qo.l1] at H
         by_cases c26:Ym<(Qd.length:Int)
         ·
          rw [if_pos c26] at H;have c26b0:decide (Ym<(Qd.length:Int))=true:=decide_eq_true c26;clear c26
          by_cases c27:0≤Ym
          ·
           rw [if_pos c27] at H;have c27b0:decide (0≤Ym)=true:=decide_eq_true c27;clear c27
           by_cases c28:Ym<(Qd.length:Int)
           ·
            rw [if_pos c28] at H;have c28b0:decide (Ym<(Qd.length:Int))=true:=decide_eq_true c28;clear c28;have qoX:=Q1.mk H;clear H;have qg1:0≤(Ym:Int):=of_decide_eq_true (by first|(with_reducible assumption)|assumption);have qhd:Ym<(Qd.length:Int):=of_decide_eq_true (by first|(with_reducible assumption)|assumption);obtain ⟨qcY,qzq,qzK,qz0,UJ,qik,qh6⟩:=qj9 JC.out Ym qg1 qhd;cases qz0;replace UJ:=(HB.out.cell (World.block_lt_of_cell? w _ UJ)).trans UJ;have qlu:=Q1.mk qh6;have qtx:=Q1.mk qik;clear qh6 qik;replace qg1:=eq_true qg1;replace qhd:=eq_true qhd
            go_upto_region 10 with (fail)
            go_cut [4] (fun v4 wc => ∃ (kq:Nat) (qiQ:Bool),v4 = .bool qiQ∧Q1 (Qo.j4 kq (Qa.length:Int) qiQ (QG Qd Ym) Qd (Qd.length:Int) Ym Qa Qk Qd=some r)∧Q1 (kq≤k4)∧Q1 (wc.heap[Jh]? = some (.cells #[(.slice Y3 Qa.length QH),(.slice Y0 Qk.length QJ),(.slice (some qcY) Qd.length QL)] 47 (0,0)))∧Q1 (Below w.heap.size w wc))
            case first =>
             have H:=qoX.out;clear qoX
             by_cases c30:qld=true
             ·
              subst c30
              have H1:(Qo.j4 k4 (Qa.length:Int) (((QG Qd Ym).length:Int)==(Qa.length:Int)) (QG Qd Ym) Qd (Qd.length:Int) Ym Qa Qk Qd)=some r:=by rw [if_pos rfl] at H;exact H
              clear H;have H:=H1;clear H1;have H':=Q1.mk H;clear H
              go_wp2
              go_meet
              case rel=>exact ⟨_,((((QG Qd Ym).length:Int)==(Qa.length:Int))),(by first|rfl|(simp;done)|(simp [*];done)),H',⟨by have:=HJ1.out;have:=HK2.out;have:=UY.out;have:=HK4.out;first|omega|exact Nat.le_refl _⟩,⟨by (with_reducible repeat (first|refine Q4 ?_ _|refine Q6 ?_|refine Q3 ?_ _));exact YE.out⟩,⟨by repeat (first|(with_reducible first|exact HB.out|apply Q2|apply Q0|apply Q5|refine Q7 ?_ G7.out)|exact HB.out)⟩⟩
             replace c30:=Bool.eq_false_iff.mpr c30;subst c30
             have H1:(Qo.j4 k4 (Qa.length:Int) false (QG Qd Ym) Qd (Qd.length:Int) Ym Qa Qk Qd)=some r:=by rw [if_neg (show ¬ (false=true) by decide)] at H;exact H
             clear H;have H:=H1;clear H1;have H':=Q1.mk H;clear H
             go_wp2
             go_meet
             case rel=>exact ⟨_,(false),(by first|rfl|(simp;done)|(simp [*];done)),H',⟨by have:=HJ1.out;have:=HK2.out;have:=UY.out;have:=HK4.out;first|omega|exact Nat.le_refl _⟩,⟨by (with_reducible repeat (first|refine Q4 ?_ _|refine Q6 ?_|refine Q3 ?_ _));exact YE.out⟩,⟨by repeat (first|(with_reducible first|exact HB.out|apply Q2|apply Q0|apply Q5|refine Q7 ?_ G7.out)|exact HB.out)⟩⟩
            case rest =>
             clear qoX;(try clear c1);(try clear p1);(try clear q1);(try clear hx1);(try clear c2);(try clear p2);(try clear c3);(try clear c6);(try clear p6);(try clear c7);(try clear c7b0);(try clear c7b1);(try clear c7b2);(try clear c12);(try clear c13);(try clear c14);(try clear c14b0);(try clear c15);(try clear c15b0);(try clear c17);(try clear c18);(try clear c18b0);(try clear c19);(try clear p19);(try clear q19);(try clear qna);(try clear c26);(try clear c26b0);(try clear c27);(try clear c27b0);(try clear c28);(try clear c28b0);(try clear c30);(try clear Gb);(try clear Gc);(try clear GK);(try clear Xn);(try clear Xo);(try clear Xp);(try clear Wn);(try clear Wo);(try clear Wp);(try clear Xq);(try clear Xr);(try clear Xs);(try clear Xt);(try clear Xu);(try clear Xv);(try clear GD);(try clear GE);(try clear K0);(try clear K1);(try clear K2);(try clear Ka);(try clear Gd);(try clear Ge);(try clear GL);(try clear Xy);(try clear Xz);(try clear XA);(try clear Wq);(try clear Wr);(try clear Ws);(try clear XB);(try clear XC);(try clear XD);(try clear XE);(try clear XF);(try clear XG);(try clear GF);(try clear GG);(try clear Kb);(try clear Ke);(try clear Kf);(try clear Kg);(try clear GM);(try clear GN);(try clear GQ);(try clear GR);(try clear GT);(try clear U5);(try clear UJ);(try clear p1);(try clear p19);(try clear qaV);(try clear qfK);(try clear qg1);(try clear p2);(try clear p6);(try clear q1);(try clear q19);(try clear qaW);(try clear qfM);(try clear qhd);obtain ⟨kq,qiQ,rfl,HA,qbO,YE,HB⟩:=hcut
             cases kq with
             | zero=>exact absurd HA.out (by simp [Qo.j4])
             | succ qtn =>
              have H:=HA.out;clear HA;simp only [Qo.j4] at H;have H':=Q1.mk H;clear H
              go_wp2
              go_loopg [4,69] qtn (fun kq v4 v69 w' => ∃ (qle:Bool) (Ze:Int),v4 = .bool qle∧v69 = .int .i64 Ze∧Q1 (Qo.l2 kq (Qa.length:Int) qle Qd (Qd.length:Int) Ym (QG Qd Ym) ((QG Qd Ym).length:Int) Ze Qa Qk Qd=some r)∧Q1 (kq≤qtn)∧Q1 (w'.heap[Jh]? = some (.cells #[(.slice Y3 Qa.length QH),(.slice Y0 Qk.length QJ),(.slice (some qcY) Qd.length QL)] 47 (0,0)))∧Q1 (Below w.heap.size w w'))
              case atStart=>exact ⟨(qiQ),(0),(by first|rfl|(simp;done)|(simp [*];done)),(by first|rfl|(simp;done)|(simp [*];done)),H',⟨Nat.le_refl _⟩,⟨by (with_reducible repeat (first|refine Q4 ?_ _|refine Q6 ?_|refine Q3 ?_ _));exact YE.out⟩,⟨by repeat (first|(with_reducible first|exact HB.out|apply Q2|apply Q0|apply Q5|refine Q7 ?_ G7.out)|exact HB.out)⟩⟩
              case round =>
               clear H';(try clear c1);(try clear p1);(try clear q1);(try clear hx1);(try clear c2);(try clear p2);(try clear c3);(try clear c6);(try clear p6);(try clear c7);(try clear c7b0);(try clear c7b1);(try clear c7b2);(try clear c12);(try clear c13);(try clear c14);(try clear c14b0);(try clear c15);(try clear c15b0);(try clear c17);(try clear c18);(try clear c18b0);(try clear c19);(try clear p19);(try clear q19);(try clear qna);(try clear c26);(try clear c26b0);(try clear c27);(try clear c27b0);(try clear c28);(try clear c28b0);(try clear c30);(try clear Gb);(try clear Gc);(try clear GK);(try clear Xn);(try clear Xo);(try clear Xp);(try clear Wn);(try clear Wo);(try clear Wp);(try clear Xq);(try clear Xr);(try clear Xs);(try clear Xt);(try clear Xu);(try clear Xv);(try clear GD);(try clear GE);(try clear K0);(try clear K1);(try clear K2);(try clear Ka);(try clear Gd);(try clear Ge);(try clear GL);(try clear Xy);(try clear Xz);(try clear XA);(try clear Wq);(try clear Wr);(try clear Ws);(try clear XB);(try clear XC);(try clear XD);(try clear XE);(try clear XF);(try clear XG);(try clear GF);(try clear GG);(try clear Kb);(try clear Ke);(try clear Kf);(try clear Kg);(try clear GM);(try clear GN);(try clear GQ);(try clear GR);(try clear GT);(try clear U5);(try clear UJ);(try clear p1);(try clear p19);(try clear qaV);(try clear qfK);(try clear qg1);(try clear p2);(try clear p6);(try clear q1);(try clear q19);(try clear qaW);(try clear qfM);(try clear qhd);obtain ⟨qle,Ze,rfl,rfl,HA,HK6,YE,HB⟩:=hrel
               cases gk with
               | zero=>exact absurd HA.out (by simp [Qo.l2])
               | succ k6 =>
                have H:=HA.out;clear HA;simp only [Qo.l2] at H
                by_cases c31:Ze<((QG Qd Ym).length:Int)
                ·
                 rw [if_pos c31] at H;have c31b0:decide (Ze<((QG Qd Ym).length:Int))=true:=decide_eq_true c31;clear c31
                 by_cases c32:0≤Ze
                 ·
                  rw [if_pos c32] at H;have c32b0:decide (0≤Ze)=true:=decide_eq_true c32;clear c32
                  by_cases c33:Ze<((QG Qd Ym).length:Int)
                  ·
                   rw [if_pos c33] at H;have c33b0:decide (Ze<((QG Qd Ym).length:Int))=true:=decide_eq_true c33;clear c33;have qoZ:=Q1.mk H;clear H;have qkV:0≤(Ze:Int):=of_decide_eq_true (by first|(with_reducible assumption)|assumption);have qkY:Ze<((QG Qd Ym).length:Int):=of_decide_eq_true (by first|(with_reducible assumption)|assumption);obtain ⟨qBD,qzr,qzL,e195,XT,qil,qh7⟩:=qbX qlu.out Ze qkV qkY;cases e195;replace XT:=(HB.out.cell (World.block_lt_of_cell? w _ XT)).trans XT;have qhO:=Q1.mk qh7;have qty:=Q1.mk qil;clear qh7 qil;replace qkV:=eq_true qkV;replace qkY:=eq_true qkY
                   go_upto_region 14 with (fail)
                   go_cut [4] (fun v4 wc => ∃ (kq:Nat) (qiR:Bool),v4 = .bool qiR∧Q1 (Qo.j6 kq (Qa.length:Int) qiR (QW (QG Qd Ym) Ze) Qd (Qd.length:Int) Ym (QG Qd Ym) ((QG Qd Ym).length:Int) Ze Qa Qk Qd=some r)∧Q1 (kq≤k6)∧Q1 (wc.heap[Jh]? = some (.cells #[(.slice Y3 Qa.length QH),(.slice Y0 Qk.length QJ),(.slice (some qcY) Qd.length QL)] 47 (0,0)))∧Q1 (Below w.heap.size w wc))
                   case first =>
                    have H:=qoZ.out;clear qoZ
                    by_cases c35:qle=true
                    ·
                     subst c35
                     have H1:((Qj.f ((QW (QG Qd Ym) Ze).length:Int) 1 10).bind fun t196=>(if t196=true then (if 0<(Qd.length:Int) then (if 0<((QG Qd 0).length:Int) then (Qo.j6 k6 (Qa.length:Int) (((QW (QG Qd Ym) Ze).length:Int)==((QW (QG Qd 0) 0).length:Int)) (QW (QG Qd Ym) Ze) Qd (Qd.length:Int) Ym (QG Qd Ym) ((QG Qd Ym).length:Int) Ze Qa Qk Qd) else (none)) else (none)) else (Qo.j6 k6 (Qa.length:Int) false (QW (QG Qd Ym) Ze) Qd (Qd.length:Int) Ym (QG Qd Ym) ((QG Qd Ym).length:Int) Ze Qa Qk Qd)))=some r:=by rw [if_pos rfl] at H;exact H
                     clear H;have H:=H1;clear H1;replace H:=Option.bind_eq_some_iff.mp H;obtain ⟨t196,qqq,H⟩:=H;replace H:(if t196=true then (if 0<(Qd.length:Int) then (if 0<((QG Qd 0).length:Int) then (Qo.j6 k6 (Qa.length:Int) (((QW (QG Qd Ym) Ze).length:Int)==((QW (QG Qd 0) 0).length:Int)) (QW (QG Qd Ym) Ze) Qd (Qd.length:Int) Ym (QG Qd Ym) ((QG Qd Ym).length:Int) Ze Qa Qk Qd) else (none)) else (none)) else (Qo.j6 k6 (Qa.length:Int) false (QW (QG Qd Ym) Ze) Qd (Qd.length:Int) Ym (QG Qd Ym) ((QG Qd Ym).length:Int) Ze Qa Qk Qd))=some r:=H;have A36:=Q1.mk qqq;clear qqq
                     by_cases c37:t196=true
                     ·
                      subst c37
                      have H1:(if 0<(Qd.length:Int) then (if 0<((QG Qd 0).length:Int) then (Qo.j6 k6 (Qa.length:Int) (((QW (QG Qd Ym) Ze).length:Int)==((QW (QG Qd 0) 0).length:Int)) (QW (QG Qd Ym) Ze) Qd (Qd.length:Int) Ym (QG Qd Ym) ((QG Qd Ym).length:Int) Ze Qa Qk Qd) else (none)) else (none))=some r:=by rw [if_pos rfl] at H;exact H
                      clear H;have H:=H1;clear H1
                      by_cases c38:0<(Qd.length:Int)
                      ·
                       rw [if_pos c38] at H;have c38b0:decide (0<(Qd.length:Int))=true:=decide_eq_true c38;have c38b1:decide (0<Qd.length)=true:=decide_eq_true (by omega);clear c38
                       (first|rw [c38b0]|(simp only [Yh,Yk];rw [c38b0])|skip)
                       by_cases c39:0<((QG Qd 0).length:Int)
                       ·
                        rw [if_pos c39] at H;have c39b0:decide (0<((QG Qd 0).length:Int))=true:=decide_eq_true c39;have c39b1:decide (0<(QG Qd 0).length)=true:=decide_eq_true (by omega);clear c39;have H':=Q1.mk H;clear H
                        go_wp2_with (first|(go_at_call 65;(with_reducible refine (Qj.calls ((QW (QG Qd Ym) Ze).length:Int) 1 10 true _ A36.out).mono ?_);rintro e w' ⟨rfl,⟨nd,rfl⟩⟩;have qbe:wr.cell? ⟨Jh,0,none⟩=some (.slice Y3 Qa.length QH):=(Q8 YE.out 0).trans rfl;have qbf:wr.cell? ⟨Jh,1,none⟩=some (.slice Y0 Qk.length QJ):=(Q8 YE.out 1).trans rfl;have qbg:wr.cell? ⟨Jh,2,none⟩=some (.slice (some qcY) Qd.length QL):=(Q8 YE.out 2).trans rfl;have qbp:=Q9 YE.out 0;have qbq:=Q9 YE.out 1;have qbr:=Q9 YE.out 2;have qkW:0≤(0:Int):=(by omega);have qkZ:0<(Qd.length:Int):=of_decide_eq_true (by first|(with_reducible assumption)|assumption);obtain ⟨qrb,qzs,qzM,e197,UK,qim,qh8⟩:=qj9 JC.out 0 qkW qkZ;obtain rfl:qcY=qrb:=(by injection e197);have qDl:(0<Qd.length)=True:=eq_true (by omega);(try rw [show ((0:Int)).toNat=0 from rfl] at UK);(try rw [Addr.add_zero'] at UK);replace UK:=(HB.out.cell (World.block_lt_of_cell? w _ UK)).trans UK;have qlv:=Q1.mk qh8;have qtz:=Q1.mk qim;clear qh8 qim;replace qkW:=eq_true qkW;replace qkZ:=eq_true qkZ;have qkX:0≤(0:Int):=(by omega);have qk0:0<((QG Qd 0).length:Int):=of_decide_eq_true (by first|(with_reducible assumption)|assumption);obtain ⟨qBE,qzt,qzN,qz1,UL,qin,qh9⟩:=qbX qlv.out 0 qkX qk0;cases qz1;have qDm:(0<(QG Qd 0).length)=True:=eq_true (by omega);(try rw [show ((0:Int)).toNat=0 from rfl] at UL);(try rw [Addr.add_zero'] at UL);replace UL:=(HB.out.cell (World.block_lt_of_cell? w _ UL)).trans UL;have qtF:=Q1.mk qh9;have qtA:=Q1.mk qin;clear qh9 qin;replace qkX:=eq_true qkX;replace qk0:=eq_true qk0))
                        go_meet
                        case rel=>exact ⟨_,((((QW (QG Qd Ym) Ze).length:Int)==((QW (QG Qd 0) 0).length:Int))),(by first|rfl|(simp;done)|(simp [*];done)),H',⟨by have:=HJ1.out;have:=HK2.out;have:=UY.out;have:=HK4.out;have:=qbO.out;have:=HK6.out;first|omega|exact Nat.le_refl _⟩,⟨by (with_reducible repeat (first|refine Q4 ?_ _|refine Q6 ?_|refine Q3 ?_ _));exact YE.out⟩,⟨by repeat (first|(with_reducible first|exact HB.out|apply Q2|apply Q0|apply Q5|refine Q7 ?_ G7.out)|exact HB.out)⟩⟩
                       rw [if_neg c39] at H
                       exact absurd H (by simp)
                      rw [if_neg c38] at H
                      exact absurd H (by simp)
                     replace c37:=Bool.eq_false_iff.mpr c37;subst c37
                     have H1:(Qo.j6 k6 (Qa.length:Int) false (QW (QG Qd Ym) Ze) Qd (Qd.length:Int) Ym (QG Qd Ym) ((QG Qd Ym).length:Int) Ze Qa Qk Qd)=some r:=by rw [if_neg (show ¬ (false=true) by decide)] at H;exact H
                     clear H;have H:=H1;clear H1;have H':=Q1.mk H;clear H
                     go_wp2_with (first|(go_at_call 65;(with_reducible refine (Qj.calls ((QW (QG Qd Ym) Ze).length:Int) 1 10 false _ A36.out).mono ?_);rintro e w' ⟨rfl,⟨nd,rfl⟩⟩))
                     go_meet
                     case rel=>exact ⟨_,(false),(by first|rfl|(simp;done)|(simp [*];done)),H',⟨by have:=HJ1.out;have:=HK2.out;have:=UY.out;have:=HK4.out;have:=qbO.out;have:=HK6.out;first|omega|exact Nat.le_refl _⟩,⟨by (with_reducible repeat (first|refine Q4 ?_ _|refine Q6 ?_|refine Q3 ?_ _));exact YE.out⟩,⟨by repeat (first|(with_reducible first|exact HB.out|apply Q2|apply Q0|apply Q5|refine Q7 ?_ G7.out)|exact HB.out)⟩⟩
                    replace c35:=Bool.eq_false_iff.mpr c35;subst c35
                    have H1:(Qo.j6 k6 (Qa.length:Int) false (QW (QG Qd Ym) Ze) Qd (Qd.length:Int) Ym (QG Qd Ym) ((QG Qd Ym).length:Int) Ze Qa Qk Qd)=some r:=by rw [if_neg (show ¬ (false=true) by decide)] at H;exact H
                    clear H;have H:=H1;clear H1;have H':=Q1.mk H;clear H
                    go_wp2
                    go_meet
                    case rel=>exact ⟨_,(false),(by first|rfl|(simp;done)|(simp [*];done)),H',⟨by have:=HJ1.out;have:=HK2.out;have:=UY.out;have:=HK4.out;have:=qbO.out;have:=HK6.out;first|omega|exact Nat.le_refl _⟩,⟨by (with_reducible repeat (first|refine Q4 ?_ _|refine Q6 ?_|refine Q3 ?_ _));exact YE.out⟩,⟨by repeat (first|(with_reducible first|exact HB.out|apply Q2|apply Q0|apply Q5|refine Q7 ?_ G7.out)|exact HB.out)⟩⟩
                   case rest =>
                    clear qoZ;(try clear c1);(try clear p1);(try clear q1);(try clear hx1);(try clear qi1);(try clear c2);(try clear p2);(try clear c3);(try clear c6);(try clear p6);(try clear c7);(try clear c7b0);(try clear c7b1);(try clear c7b2);(try clear c12);(try clear c13);(try clear c14);(try clear c14b0);(try clear c15);(try clear c15b0);(try clear c17);(try clear c18);(try clear c18b0);(try clear c19);(try clear p19);(try clear q19);(try clear qna);(try clear qA8);(try clear c26);(try clear c26b0);(try clear c27);(try clear c27b0);(try clear c28);(try clear c28b0);(try clear c30);(try clear c31);(try clear c31b0);(try clear c32);(try clear c32b0);(try clear c33);(try clear c33b0);(try clear c35);(try clear c37);(try clear c38);(try clear c38b0);(try clear c38b1);(try clear c39);(try clear c39b0);(try clear c39b1);(try clear Gb);(try clear Gc);(try clear GK);(try clear Xn);(try clear Xo);(try clear Xp);(try clear Wn);(try clear Wo);(try clear Wp);(try clear Xq);(try clear Xr);(try clear Xs);(try clear Xt);(try clear Xu);(try clear Xv);(try clear qbe);(try clear qbf);(try clear qbg);(try clear GD);(try clear GE);(try clear K0);(try clear K1);(try clear K2);(try clear Ka);(try clear Gd);(try clear Ge);(try clear GL);(try clear Xy);(try clear Xz);(try clear XA);(try clear Wq);(try clear Wr);(try clear Ws);(try clear XB);(try clear XC);(try clear XD);(try clear XE);(try clear XF);(try clear XG);(try clear qbp);(try clear qbq);(try clear qbr);(try clear GF);(try clear GG);(try clear Kb);(try clear Ke);(try clear Kf);(try clear Kg);(try clear GM);(try clear GN);(try clear GQ);(try clear GR);(try clear GT);(try clear U5);(try clear UJ);(try clear XT);(try clear UK);(try clear UL);(try clear p1);(try clear p19);(try clear qaV);(try clear qfK);(try clear qg1);(try clear qkV);(try clear qkW);(try clear qkX);(try clear p2);(try clear p6);(try clear q1);(try clear q19);(try clear qaW);(try clear qfM);(try clear qhd);(try clear qkY);(try clear qkZ);(try clear qk0);obtain ⟨kq,qiR,rfl,HA,qiU,YE,HB⟩:=hcut
                    cases kq with
                    | zero=>exact absurd HA.out (by simp [Qo.j6])
                    | succ qto =>
                     have H:=HA.out;clear HA;simp only [Qo.j6] at H;have H':=Q1.mk H;clear H
                     go_wp2
                     go_loopg [4,93] qto (fun kq v4 v93 w' => ∃ (qlf:Bool) (Gt:Int),v4 = .bool qlf∧v93 = .int .i64 Gt∧Q1 (Qo.l3 kq (Qa.length:Int) qlf Qd (Qd.length:Int) Ym (QG Qd Ym) ((QG Qd Ym).length:Int) Ze (QW (QG Qd Ym) Ze) ((QW (QG Qd Ym) Ze).length:Int) Gt Qa Qk Qd=some r)∧Q1 (kq≤qto)∧Q1 (w'.heap[Jh]? = some (.cells #[(.slice Y3 Qa.length QH),(.slice Y0 Qk.length QJ),(.slice (some qcY) Qd.length QL)] 47 (0,0)))∧Q1 (Below w.heap.size w w'))
                     case atStart=>exact ⟨(qiR),(0),(by first|rfl|(simp;done)|(simp [*];done)),(by first|rfl|(simp;done)|(simp [*];done)),H',⟨Nat.le_refl _⟩,⟨by (with_reducible repeat (first|refine Q4 ?_ _|refine Q6 ?_|refine Q3 ?_ _));exact YE.out⟩,⟨by repeat (first|(with_reducible first|exact HB.out|apply Q2|apply Q0|apply Q5|refine Q7 ?_ G7.out)|exact HB.out)⟩⟩
                     case round =>
                      clear H';(try clear c1);(try clear p1);(try clear q1);(try clear hx1);(try clear qi1);(try clear c2);(try clear p2);(try clear c3);(try clear c6);(try clear p6);(try clear c7);(try clear c7b0);(try clear c7b1);(try clear c7b2);(try clear c12);(try clear c13);(try clear c14);(try clear c14b0);(try clear c15);(try clear c15b0);(try clear c17);(try clear c18);(try clear c18b0);(try clear c19);(try clear p19);(try clear q19);(try clear qna);(try clear qA8);(try clear c26);(try clear c26b0);(try clear c27);(try clear c27b0);(try clear c28);(try clear c28b0);(try clear c30);(try clear c31);(try clear c31b0);(try clear c32);(try clear c32b0);(try clear c33);(try clear c33b0);(try clear c35);(try clear c37);(try clear c38);(try clear c38b0);(try clear c38b1);(try clear c39);(try clear c39b0);(try clear c39b1);(try clear Gb);(try clear Gc);(try clear GK);(try clear Xn);(try clear Xo);(try clear Xp);(try clear Wn);(try clear Wo);(try clear Wp);(try clear Xq);(try clear Xr);(try clear Xs);(try clear Xt);(try clear Xu);(try clear Xv);(try clear qbe);(try clear qbf);(try clear qbg);(try clear GD);(try clear GE);(try clear K0);(try clear K1);(try clear K2);(try clear Ka);(try clear Gd);(try clear Ge);(try clear GL);(try clear Xy);(try clear Xz);(try clear XA);(try clear Wq);(try clear Wr);(try clear Ws);(try clear XB);(try clear XC);(try clear XD);(try clear XE);(try clear XF);(try clear XG);(try clear qbp);(try clear qbq);(try clear qbr);(try clear GF);(try clear GG);(try clear Kb);(try clear Ke);(try clear Kf);(try clear Kg);(try clear GM);(try clear GN);(try clear GQ);(try clear GR);(try clear GT);(try clear U5);(try clear UJ);(try clear XT);(try clear UK);(try clear UL);(try clear p1);(try clear p19);(try clear qaV);(try clear qfK);(try clear qg1);(try clear qkV);(try clear qkW);(try clear qkX);(try clear p2);(try clear p6);(try clear q1);(try clear q19);(try clear qaW);(try clear qfM);(try clear qhd);(try clear qkY);(try clear qkZ);(try clear qk0);obtain ⟨qlf,Gt,rfl,rfl,HA,HK8,YE,HB⟩:=hrel
                      cases gk with
                      | zero=>exact absurd HA.out (by simp [Qo.l3])
                      | succ k8 =>
                       have H:=HA.out;clear HA;simp only [Qo.l3] at H
                       by_cases c41:Gt<((QW (QG Qd Ym) Ze).length:Int)
                       ·
                        rw [if_pos c41] at H;have c41b0:decide (Gt<((QW (QG Qd Ym) Ze).length:Int))=true:=decide_eq_true c41;clear c41
                        by_cases c42:0≤Gt
                        ·
                         rw [if_pos c42] at H;have c42b0:decide (0≤Gt)=true:=decide_eq_true c42;clear c42
                         by_cases c43:Gt<((QW (QG Qd Ym) Ze).length:Int)
                         ·
                          rw [if_pos c43] at H;have c43b0:decide (Gt<((QW (QG Qd Ym) Ze).length:Int))=true:=decide_eq_true c43;clear c43
                          by_cases c44:qlf=true
                          ·
                           subst c44
                           have H1:((Qj.f (rd (QW (QG Qd Ym) Ze) Gt) 0 100000).bind fun qhm=>(Qo.l3 k8 (Qa.length:Int) qhm Qd (Qd.length:Int) Ym (QG Qd Ym) ((QG Qd Ym).length:Int) Ze (QW (QG Qd Ym) Ze) ((QW (QG Qd Ym) Ze).length:Int) (wrap64 (Gt+1)) Qa Qk Qd))=some r:=by rw [if_pos rfl] at H;exact H
                           clear H;have H:=H1;clear H1;replace H:=Option.bind_eq_some_iff.mp H;obtain ⟨qhm,qjJ,H⟩:=H;replace H:(Qo.l3 k8 (Qa.length:Int) qhm Qd (Qd.length:Int) Ym (QG Qd Ym) ((QG Qd Ym).length:Int) Ze (QW (QG Qd Ym) Ze) ((QW (QG Qd Ym) Ze).length:Int) (wrap64 (Gt+1)) Qa Qk Qd)=some r:=H;have A45:=Q1.mk qjJ;clear qjJ;have H':=Q1.mk H;clear H;have qg2:0≤(Gt:Int):=of_decide_eq_true (by first|(with_reducible assumption)|assumption);have qhe:Gt<((QW (QG Qd Ym) Ze).length:Int):=of_decide_eq_true (by first|(with_reducible assumption)|assumption);obtain ⟨qrc,e199,UM⟩:=Kd.at_int qhO.out Gt qg2 qhe;cases e199;replace UM:=(HB.out.cell (World.block_lt_of_cell? w _ UM)).trans UM;replace qg2:=eq_true qg2;replace qhe:=eq_true qhe
                           go_wp2_with (first|(go_at_call 65;(with_reducible refine (Qj.calls (rd (QW (QG Qd Ym) Ze) Gt) 0 100000 qhm _ A45.out).mono ?_);rintro e w' ⟨rfl,⟨nd,rfl⟩⟩))
                           go_roundg k8
                           case measure=>have:=HJ1.out;have:=HK2.out;have:=UY.out;have:=HK4.out;have:=qbO.out;have:=HK6.out;have:=qiU.out;have:=HK8.out;omega
                           case rel=>exact ⟨(qhm),(wrap64 (Gt+1)),(by first|rfl|(simp;done)|(simp [*];done)),(by first|rfl|(simp;done)|(simp [*];done)),H',⟨by have:=HJ1.out;have:=HK2.out;have:=UY.out;have:=HK4.out;have:=qbO.out;have:=HK6.out;have:=qiU.out;have:=HK8.out;omega⟩,⟨by (with_reducible repeat (first|refine Q4 ?_ _|refine Q6 ?_|refine Q3 ?_ _));exact YE.out⟩,⟨by repeat (first|(with_reducible first|exact HB.out|apply Q2|apply Q0|apply Q5|refine Q7 ?_ G7.out)|exact HB.out)⟩⟩
                          replace c44:=Bool.eq_false_iff.mpr c44;subst c44
                          have H1:(Qo.l3 k8 (Qa.length:Int) false Qd (Qd.length:Int) Ym (QG Qd Ym) ((QG Qd Ym).length:Int) Ze (QW (QG Qd Ym) Ze) ((QW (QG Qd Ym) Ze).length:Int) (wrap64 (Gt+1)) Qa Qk Qd)=some r:=by rw [if_neg (show ¬ (false=true) by decide)] at H;exact H
                          clear H;have H:=H1;clear H1;have H':=Q1.mk H;clear H;have qg2:0≤(Gt:Int):=of_decide_eq_true (by first|(with_reducible assumption)|assumption);have qhe:Gt<((QW (QG Qd Ym) Ze).length:Int):=of_decide_eq_true (by first|(with_reducible assumption)|assumption);obtain ⟨qrc,e199,UM⟩:=Kd.at_int qhO.out Gt qg2 qhe;cases e199;replace UM:=(HB.out.cell (World.block_lt_of_cell? w _ UM)).trans UM;replace qg2:=eq_true qg2;replace qhe:=eq_true qhe
                          go_wp2
                          go_roundg k8
                          case measure=>have:=HJ1.out;have:=HK2.out;have:=UY.out;have:=HK4.out;have:=qbO.out;have:=HK6.out;have:=qiU.out;have:=HK8.out;omega
                          case rel=>exact ⟨(false),(wrap64 (Gt+1)),(by first|rfl|(simp;done)|(simp [*];done)),(by first|rfl|(simp;done)|(simp [*];done)),H',⟨by have:=HJ1.out;have:=HK2.out;have:=UY.out;have:=HK4.out;have:=qbO.out;have:=HK6.out;have:=qiU.out;have:=HK8.out;omega⟩,⟨by (with_reducible repeat (first|refine Q4 ?_ _|refine Q6 ?_|refine Q3 ?_ _));exact YE.out⟩,⟨by repeat (first|(with_reducible first|exact HB.out|apply Q2|apply Q0|apply Q5|refine Q7 ?_ G7.out)|exact HB.out)⟩⟩
                         rw [if_neg c43] at H
                         exact absurd H (by simp)
                        rw [if_neg c42] at H
                        exact absurd H (by simp)
                       rw [if_neg c41] at H;have c41b0:decide (Gt<((QW (QG Qd Ym) Ze).length:Int))=false:=decide_eq_false c41;clear c41;have H':=Q1.mk H;clear H
                       go_wp2
                       go_roundg k8
                       case measure=>have:=HJ1.out;have:=HK2.out;have:=UY.out;have:=HK4.out;have:=qbO.out;have:=HK6.out;have:=qiU.out;have:=HK8.out;omega
                       case rel=>exact ⟨(qlf),(wrap64 (Ze+1)),(by first|rfl|(simp;done)|(simp [*];done)),(by first|rfl|(simp;done)|(simp [*];done)),H',⟨by have:=HJ1.out;have:=HK2.out;have:=UY.out;have:=HK4.out;have:=qbO.out;have:=HK6.out;have:=qiU.out;have:=HK8.out;omega⟩,⟨by (with_reducible repeat (first|refine Q4 ?_ _|refine Q6 ?_|refine Q3 ?_ _));exact YE.out⟩,⟨by repeat (first|(with_reducible first|exact HB.out|apply Q2|apply Q0|apply Q5|refine Q7 ?_ G7.out)|exact HB.out)⟩⟩
                  rw [if_neg c33] at H
                  exact absurd H (by simp)
                 rw [if_neg c32] at H
                 exact absurd H (by simp)
                rw [if_neg c31] at H;have c31b0:decide (Ze<((QG Qd Ym).length:Int))=false:=decide_eq_false c31;clear c31;have H':=Q1.mk H;clear H
                go_wp2
                go_roundg k6
                case measure=>have:=HJ1.out;have:=HK2.out;have:=UY.out;have:=HK4.out;have:=qbO.out;have:=HK6.out;omega
                case rel=>exact ⟨(qle),(wrap64 (Ym+1)),(by first|rfl|(simp;done)|(simp [*];done)),(by first|rfl|(simp;done)|(simp [*];done)),H',⟨by have:=HJ1.out;have:=HK2.out;have:=UY.out;have:=HK4.out;have:=qbO.out;have:=HK6.out;omega⟩,⟨by (with_reducible repeat (first|refine Q4 ?_ _|refine Q6 ?_|refine Q3 ?_ _));exact YE.out⟩,⟨by repeat (first|(with_reducible first|exact HB.out|apply Q2|apply Q0|apply Q5|refine Q7 ?_ G7.out)|exact HB.out)⟩⟩
           rw [if_neg c28] at H
           exact absurd H (by simp)
          rw [if_neg c27] at H
          exact absurd H (by simp)
         rw [if_neg c26] at H;have c26b0:decide (Ym<(Qd.length:Int))=false:=decide_eq_false c26;clear c26
         by_cases c46:qld=true
         ·
          subst c46
          have H1:(some 0)=some r:=by rw [if_pos rfl] at H;exact H
          clear H;have H:=H1;clear H1;obtain rfl:=Option.some.inj H
          go_wp2
          go_ret
          exact ⟨by first|rfl|(simp [Qp,Qq]<;>rfl)|(simp [*,Qp,Qq]<;>rfl),by repeat (first|(with_reducible first|exact HB.out|apply Q2|apply Q0|apply Q5|refine Q7 ?_ G7.out)|exact HB.out)⟩
         replace c46:=Bool.eq_false_iff.mpr c46;subst c46
         have H1:(some 93)=some r:=by rw [if_neg (show ¬ (false=true) by decide)] at H;exact H
         clear H;have H:=H1;clear H1;obtain rfl:=Option.some.inj H
         go_wp2
         go_ret
         exact ⟨by first|rfl|(simp [Qp,Qq]<;>rfl)|(simp [*,Qp,Qq]<;>rfl),by repeat (first|(with_reducible first|exact HB.out|apply Q2|apply Q0|apply Q5|refine Q7 ?_ G7.out)|exact HB.out)⟩
end
end Go.Proofs.Ytmhomdohhihlcaa.P
