/- What the statement StockCloses leans on, part 3 of 5: contracts of the program's functions; conditions: none. -/
import Derived.Deep.RegionLaw
import Derived.Deep.RegionHeld3
import Derived.StillTailTactics
import Derived.Deep.RegionWith
import Derived.BigRegion
import Derived.Outline
import Derived.Test.YtmhomdohhihlcaaStockClosesx0
import Derived.Test.YtmhomdohhihlcaaStockClosesx1
set_option linter.unusedVariables false
set_option linter.unusedSimpArgs false
set_option linter.constructorNameAsVariable false
set_option linter.unusedSectionVars false
namespace Go.Proofs.Ytmhomdohhihlcaa.P
open Go.RowKit Go.Proofs.YtmhomdohhihlcaaW.PrintWords Go.Proofs.YtmhomdohhihlcaaW.PrintLast Go.Proofs.YtmhomdohhihlcaaW.PrintMore
section
attribute [local go_sem] Yr Yt YM YN Yi Yj Ys Yu
mutual
def QQ.l0:Nat→List (S68)→Int→Int→Bool→List (S68)→Int→Int→Option (Int × Int × Int)
 | 0,_,_,_,_,_,_,_=>none
 | k+1,x0,x1,x2,x8,x17,x18,x19=>if x19<x18 then (if 0≤x19 then (if x19<(x17.length:Int) then (if x8=true then ((Ql.f ((Ye x17 x19).f0) 0 10000).bind fun t105=>(if t105=true then ((J2.f ((Ye x17 x19).f1.f0) ((Ye x17 x19).f1.f1) 20).bind fun qb9=>(QQ.l0 k x0 x1 x2 qb9 x17 x18 (wrap64 (x19+1)))) else (QQ.l0 k x0 x1 x2 false x17 x18 (wrap64 (x19+1))))) else (QQ.l0 k x0 x1 x2 false x17 x18 (wrap64 (x19+1)))) else (none)) else (none)) else (if x8=true then ((Ql.f x1 0 20).bind fun t107=>(if t107=true then ((Ql.f x2 x1 20).bind fun qks=>(QQ.j1 k x0 x1 x2 (!qks))) else (QQ.j1 k x0 x1 x2 true))) else (some (0,0,90)))
def QQ.j1:Nat→List (S68)→Int→Int→Bool→Option (Int × Int × Int)
 | 0,_,_,_,_=>none
 | k+1,x0,x1,x2,x46=>if x46=true then (some (0,0,7)) else (QQ.l1 k x1 x2 x0 (x0.length:Int) 0 0 0)
def QQ.l1:Nat→Int→Int→List (S68)→Int→Int→Int→Int→Option (Int × Int × Int)
 | 0,_,_,_,_,_,_,_=>none
 | k+1,x1,x2,x48,x49,x50,KY,KZ=>if x50<x49 then (if 0≤x50 then (if x50<(x48.length:Int) then (if x1≤((Ye x48 x50).f1.f0) then (QQ.j3 k x1 x2 x48 x49 x50 (decide (((Ye x48 x50).f1.f1)≤x2)) KY KZ ((Ye x48 x50).f0) ((Ye x48 x50).f1.f0) ((Ye x48 x50).f1.f1)) else (QQ.j3 k x1 x2 x48 x49 x50 false KY KZ ((Ye x48 x50).f0) ((Ye x48 x50).f1.f0) ((Ye x48 x50).f1.f1))) else (none)) else (none)) else (some (KY,KZ,0))
def QQ.j3:Nat→Int→Int→List (S68)→Int→Int→Bool→Int→Int→Int→Int→Int→Option (Int × Int × Int)
 | 0,_,_,_,_,_,_,_,_,_,_,_=>none
 | k+1,x1,x2,x48,x49,x50,x65,KY,KZ,qak,qh4,qh5=>if x65=true then (if x1≤qh5 then (if qh4≤x2 then (QQ.l1 k x1 x2 x48 x49 (wrap64 (x50+1)) (wrap64 (KY+qak)) (wrap64 (KZ+qak))) else (QQ.l1 k x1 x2 x48 x49 (wrap64 (x50+1)) (wrap64 (KY+qak)) KZ)) else (QQ.l1 k x1 x2 x48 x49 (wrap64 (x50+1)) (wrap64 (KY+qak)) KZ)) else (if x1≤qh5 then (if qh4≤x2 then (QQ.l1 k x1 x2 x48 x49 (wrap64 (x50+1)) KY (wrap64 (KZ+qak))) else (QQ.l1 k x1 x2 x48 x49 (wrap64 (x50+1)) KY KZ)) else (QQ.l1 k x1 x2 x48 x49 (wrap64 (x50+1)) KY KZ))
end
def QQ.f (k:Nat) (l0:List (S68)) (a1:Int) (a2:Int):Option (Int × Int × Int):=QQ.l0 k l0 a1 a2 (decide ((l0.length:Int)≤20)) l0 (l0.length:Int) 0
set_option maxHeartbeats 8000000 in
set_option maxRecDepth 100000 in
theorem QQ.calls (k:Nat) (A0:Option Addr) (c0:Nat) (l0:List (S68)) (a1:Int) (a2:Int) (r1:Int) (r2:Int) (r3:Int) (w:World) (hr0:Kd.C k68 w A0 l0.length l0) (hc0:l0.length≤c0) (h:QQ.f k l0 a1 a2=some (r1,r2,r3)) :
  Calls Try.prog 19 #[.slice A0 l0.length c0,.int .i64 a1,.int .i64 a2] w fun e w'=>e = .returned (.tuple #[.agg #[.int .i64 r1,.int .i64 r2],.int .i64 r3])∧Below w.heap.size w w':=by
 have qaS:=Try.underlying25
 have qz1:=Try.underlying68
 have HR0:=Q1.mk hr0
 have HC0:=Q1.mk hc0
 clear hr0 hc0
 have HB:=Q1.mk (Below.refl w.heap.size w)
 have H:(QQ.l0 k l0 a1 a2 (decide ((l0.length:Int)≤20)) l0 (l0.length:Int) 0)=some (r1,r2,r3):=h
 clear h
 have H':=Q1.mk H
 clear H
 go_enter Try.func19,Try.ntmps19
 go_wp2_with (first|((with_reducible refine Y0 (N:=6) rfl ?_);refine Yv ?hg (N:=6) ?hd (cs:=#[.int .i64 0,.int .i64 0]) (t:=25) ?hr ?_;(case hd=>rfl);(case hg=>rfl);(case hr=>first|(go_simp;done)|(go_simp;rfl));intro ZY hg w4 hbox hb;have n0_:=Q1.mk (Qj (by repeat (first|(with_reducible first|exact HB.out|apply Q2|apply Q0|apply Q5)|exact HB.out)) hb);have n1_:=Q1.mk (hbox);have n2_:=Q1.mk ((by rw [hg];exact (Qe (by repeat (first|(with_reducible first|exact HB.out|apply Q2|apply Q0|apply Q5)|exact HB.out))):w.heap.size≤ZY));have n3_:=n2_;clear HB;have HB:=n0_;have Za:=n1_;have qz9:=n2_;have Jq:=n3_;clear n0_ n1_ n2_ n3_ hb hbox hg))
 go_loopg [8,19] k (fun kq v8 v19 w' => ∃ (GJ:Bool) (ZH:Int),v8 = .bool GJ∧v19 = .int .i64 ZH∧Q1 (QQ.l0 kq l0 a1 a2 GJ l0 (l0.length:Int) ZH=some (r1,r2,r3))∧Q1 (kq≤k)∧Q1 (w'.heap[ZY]? = some (.cells #[.int .i64 0,.int .i64 0] 25 (0,0)))∧Q1 (Below w.heap.size w w'))
 case atStart=>exact ⟨(decide ((l0.length:Int)≤20)),(0),(by first|rfl|(simp;done)|(simp [*];done)),(by first|rfl|(simp;done)|(simp [*];done)),H',⟨Nat.le_refl _⟩,⟨by (with_reducible repeat (first|refine Q4 ?_ _|refine Q6 ?_|refine Q3 ?_ _));exact Za.out⟩,⟨by repeat (first|(with_reducible first|exact HB.out|apply Q2|apply Q0|apply Q5|refine Q7 ?_ Jq.out)|exact HB.out)⟩⟩
 case round =>
  clear H'
  try clear c1
  try clear p2
  obtain ⟨GJ,ZH,rfl,rfl,HA,HK1,Za,HB⟩:=hrel
  cases gk with
  | zero=>exact absurd HA.out (by simp [QQ.l0])
  | succ k1 =>
   have H:=HA.out
   clear HA
   simp only [QQ.l0] at H
   by_cases c5:ZH<(l0.length:Int)
   ·
    rw [if_pos c5] at H;have c5b0:decide (ZH<(l0.length:Int))=true:=decide_eq_true c5;clear c5
    by_cases c6:0≤ZH
    ·
     rw [if_pos c6] at H;have c6b0:decide (0≤ZH)=true:=decide_eq_true c6;clear c6
     by_cases c7:ZH<(l0.length:Int)
     ·
      rw [if_pos c7] at H;have c7b0:decide (ZH<(l0.length:Int))=true:=decide_eq_true c7;clear c7
      by_cases c8:GJ=true
      ·
       subst c8
       have H1:((Ql.f ((Ye l0 ZH).f0) 0 10000).bind fun t105=>(if t105=true then ((J2.f ((Ye l0 ZH).f1.f0) ((Ye l0 ZH).f1.f1) 20).bind fun qb9=>(QQ.l0 k1 l0 a1 a2 qb9 l0 (l0.length:Int) (wrap64 (ZH+1)))) else (QQ.l0 k1 l0 a1 a2 false l0 (l0.length:Int) (wrap64 (ZH+1)))))=some (r1,r2,r3):=by rw [if_pos rfl] at H;exact H
       clear H;have H:=H1;clear H1;replace H:=Option.bind_eq_some_iff.mp H;obtain ⟨t105,A90,H⟩:=H;replace H:(if t105=true then ((J2.f ((Ye l0 ZH).f1.f0) ((Ye l0 ZH).f1.f1) 20).bind fun qb9=>(QQ.l0 k1 l0 a1 a2 qb9 l0 (l0.length:Int) (wrap64 (ZH+1)))) else (QQ.l0 k1 l0 a1 a2 false l0 (l0.length:Int) (wrap64 (ZH+1))))=some (r1,r2,r3):=H;have A9:=Q1.mk A90;clear A90
       by_cases c10:t105=true
       ·
        subst c10
        have H1:((J2.f ((Ye l0 ZH).f1.f0) ((Ye l0 ZH).f1.f1) 20).bind fun qb9=>(QQ.l0 k1 l0 a1 a2 qb9 l0 (l0.length:Int) (wrap64 (ZH+1))))=some (r1,r2,r3):=by rw [if_pos rfl] at H;exact H
        clear H;have H:=H1;clear H1;replace H:=Option.bind_eq_some_iff.mp H;obtain ⟨qb9,qbI,H⟩:=H;replace H:(QQ.l0 k1 l0 a1 a2 qb9 l0 (l0.length:Int) (wrap64 (ZH+1)))=some (r1,r2,r3):=H;have A11:=Q1.mk qbI;clear qbI;have H':=Q1.mk H;clear H;have XZ:0≤(ZH:Int):=of_decide_eq_true (by first|(with_reducible assumption)|assumption);have qaa:ZH<(l0.length:Int):=of_decide_eq_true (by first|(with_reducible assumption)|assumption);obtain ⟨qnJ,qjA,Gf,Gg,Gh⟩:=qc8 HR0.out ZH XZ qaa;cases qjA;replace Gf:=(HB.out.cell (World.block_lt_of_cell? w _ Gf)).trans Gf;replace Gg:=(HB.out.cell (World.block_lt_of_cell? w _ Gg)).trans Gg;replace Gh:=(HB.out.cell (World.block_lt_of_cell? w _ Gh)).trans Gh;replace XZ:=eq_true XZ;replace qaa:=eq_true qaa
        go_wp2_with (first|((with_reducible refine Y0 (N:=10) rfl ?_);refine Yv ?hg (N:=10) ?hd (cs:=#[.int .i64 0,.int .i64 0,.int .i64 0]) (t:=68) ?hr ?_;(case hd=>rfl);(case hg=>rfl);(case hr=>first|(go_simp;done)|(go_simp;rfl));intro Ge hg w12 hbox hb;have n0_:=Q1.mk (Qf (g:=ZY) (by (with_reducible repeat (first|refine Q4 ?_ _|refine Q6 ?_|refine Q3 ?_ _));exact Za.out) hb);have n1_:=Q1.mk (Qj (by repeat (first|(with_reducible first|exact HB.out|apply Q2|apply Q0|apply Q5|refine Q7 ?_ Jq.out)|exact HB.out)) hb);have n2_:=Q1.mk (hbox);have n3_:=Q1.mk ((by rw [hg];exact (Qe (by repeat (first|(with_reducible first|exact HB.out|apply Q2|apply Q0|apply Q5|refine Q7 ?_ Jq.out)|exact HB.out))):w.heap.size≤Ge));have n4_:=n3_;have n5_:=Q1.mk ((by rw [hg];exact Nat.ne_of_lt (QL (g:=ZY) (by (with_reducible repeat (first|refine Q4 ?_ _|refine Q6 ?_|refine Q3 ?_ _));exact Za.out)):ZY≠Ge));have n6_:=Q1.mk (n5_.out.symm);clear Za HB;have Za:=n0_;have HB:=n1_;have Gi:=n2_;have qnd:=n3_;have qcC:=n4_;have Js:=n5_;have Uq:=n6_;clear n0_ n1_ n2_ n3_ n4_ n5_ n6_ hb hbox hg;have qAX:=Uq.out;have qBz:=Js.out;have ON:w12.cell? ⟨Ge,0,none⟩=some (.int .i64 0):=(Q8 Gi.out 0).trans rfl;have OO:w12.cell? ⟨Ge,1,none⟩=some (.int .i64 0):=(Q8 Gi.out 1).trans rfl;have OP:w12.cell? ⟨Ge,2,none⟩=some (.int .i64 0):=(Q8 Gi.out 2).trans rfl;have OZ:=Q9 Gi.out 0;have U0:=Q9 Gi.out 1;have U1:=Q9 Gi.out 2)|(go_at_call 65;(with_reducible refine (Ql.calls ((Ye l0 ZH).f0) 0 10000 true _ A9.out).mono ?_);rintro e w' ⟨rfl,⟨nd,rfl⟩⟩)|(go_at_call 66;(with_reducible refine (J2.calls ((Ye l0 ZH).f1.f0) ((Ye l0 ZH).f1.f1) 20 qb9 _ A11.out).mono ?_);rintro e w15 ⟨rfl,hb⟩;have n0_:=Q1.mk (Qf (g:=ZY) (o:=.cells #[.int .i64 0,.int .i64 0] 25 (0,0)) (by (with_reducible repeat (first|refine Q4 ?_ _|refine Q6 ?_|refine Q3 ?_ _));refine Qm ?_ Js.out _;(with_reducible repeat (first|refine Q4 ?_ _|refine Q6 ?_|refine Q3 ?_ _));refine Qm ?_ Js.out _;(with_reducible repeat (first|refine Q4 ?_ _|refine Q6 ?_|refine Q3 ?_ _));refine Qm ?_ Js.out _;(with_reducible repeat (first|refine Q4 ?_ _|refine Q6 ?_|refine Q3 ?_ _));exact Za.out) hb);have n1_:=Q1.mk (Qf (g:=Ge) (o:=.cells #[.int .i64 ((Ye l0 ZH).f0),.int .i64 ((Ye l0 ZH).f1.f0),.int .i64 ((Ye l0 ZH).f1.f1)] 68 (0,0)) (by (with_reducible repeat (first|refine Q4 ?_ _|refine Q6 ?_|refine Q3 ?_ _));refine Qv (cs:=#[.int .i64 ((Ye l0 ZH).f0),.int .i64 ((Ye l0 ZH).f1.f0),.int .i64 0]) ?_ 2 _ rfl;(with_reducible repeat (first|refine Q4 ?_ _|refine Q6 ?_|refine Q3 ?_ _));refine Qv (cs:=#[.int .i64 ((Ye l0 ZH).f0),.int .i64 0,.int .i64 0]) ?_ 1 _ rfl;(with_reducible repeat (first|refine Q4 ?_ _|refine Q6 ?_|refine Q3 ?_ _));refine Qv (cs:=#[.int .i64 0,.int .i64 0,.int .i64 0]) ?_ 0 _ rfl;(with_reducible repeat (first|refine Q4 ?_ _|refine Q6 ?_|refine Q3 ?_ _));exact Gi.out) hb);have n2_:=Q1.mk (Qj (by repeat (first|(with_reducible first|exact HB.out|apply Q2|apply Q0|apply Q5|refine Q7 ?_ Jq.out|refine Q7 ?_ qcC.out)|exact HB.out)) hb);clear Za Gi HB;have Za:=n0_;have Gi:=n1_;have HB:=n2_;clear n0_ n1_ n2_;(try clear hb);(try clear hb2);(try clear hk);(try clear hi)))
        go_roundg k1
        case measure=>have:=HK1.out;omega
        case rel=>exact ⟨(qb9),(wrap64 (ZH+1)),(by first|rfl|(simp;done)|(simp [*];done)),(by first|rfl|(simp;done)|(simp [*];done)),H',⟨by have:=HK1.out;omega⟩,⟨by (with_reducible repeat (first|refine Q4 ?_ _|refine Q6 ?_|refine Q3 ?_ _));exact Za.out⟩,⟨by repeat (first|(with_reducible first|exact HB.out|apply Q2|apply Q0|apply Q5|refine Q7 ?_ Jq.out|refine Q7 ?_ qcC.out)|exact HB.out)⟩⟩
       replace c10:=Bool.eq_false_iff.mpr c10;subst c10
       have H1:(QQ.l0 k1 l0 a1 a2 false l0 (l0.length:Int) (wrap64 (ZH+1)))=some (r1,r2,r3):=by rw [if_neg (show ¬ (false=true) by decide)] at H;exact H
       clear H;have H:=H1;clear H1;have H':=Q1.mk H;clear H;have XZ:0≤(ZH:Int):=of_decide_eq_true (by first|(with_reducible assumption)|assumption);have qaa:ZH<(l0.length:Int):=of_decide_eq_true (by first|(with_reducible assumption)|assumption);obtain ⟨qnJ,qjA,Gf,Gg,Gh⟩:=qc8 HR0.out ZH XZ qaa;cases qjA;replace Gf:=(HB.out.cell (World.block_lt_of_cell? w _ Gf)).trans Gf;replace Gg:=(HB.out.cell (World.block_lt_of_cell? w _ Gg)).trans Gg;replace Gh:=(HB.out.cell (World.block_lt_of_cell? w _ Gh)).trans Gh;replace XZ:=eq_true XZ;replace qaa:=eq_true qaa
       go_wp2_with (first|((with_reducible refine Y0 (N:=10) rfl ?_);refine Yv ?hg (N:=10) ?hd (cs:=#[.int .i64 0,.int .i64 0,.int .i64 0]) (t:=68) ?hr ?_;(case hd=>rfl);(case hg=>rfl);(case hr=>first|(go_simp;done)|(go_simp;rfl));intro Ge hg w16 hbox hb;have n0_:=Q1.mk (Qf (g:=ZY) (by (with_reducible repeat (first|refine Q4 ?_ _|refine Q6 ?_|refine Q3 ?_ _));exact Za.out) hb);have n1_:=Q1.mk (Qj (by repeat (first|(with_reducible first|exact HB.out|apply Q2|apply Q0|apply Q5|refine Q7 ?_ Jq.out)|exact HB.out)) hb);have n2_:=Q1.mk (hbox);have n3_:=Q1.mk ((by rw [hg];exact (Qe (by repeat (first|(with_reducible first|exact HB.out|apply Q2|apply Q0|apply Q5|refine Q7 ?_ Jq.out)|exact HB.out))):w.heap.size≤Ge));have n4_:=n3_;have n5_:=Q1.mk ((by rw [hg];exact Nat.ne_of_lt (QL (g:=ZY) (by (with_reducible repeat (first|refine Q4 ?_ _|refine Q6 ?_|refine Q3 ?_ _));exact Za.out)):ZY≠Ge));have n6_:=Q1.mk (n5_.out.symm);clear Za HB;have Za:=n0_;have HB:=n1_;have Gi:=n2_;have qnd:=n3_;have qcC:=n4_;have Js:=n5_;have Uq:=n6_;clear n0_ n1_ n2_ n3_ n4_ n5_ n6_ hb hbox hg;have qrH:=Uq.out;have qrV:=Js.out;have OT:w16.cell? ⟨Ge,0,none⟩=some (.int .i64 0):=(Q8 Gi.out 0).trans rfl;have OU:w16.cell? ⟨Ge,1,none⟩=some (.int .i64 0):=(Q8 Gi.out 1).trans rfl;have OV:w16.cell? ⟨Ge,2,none⟩=some (.int .i64 0):=(Q8 Gi.out 2).trans rfl;have U5:=Q9 Gi.out 0;have U6:=Q9 Gi.out 1;have U7:=Q9 Gi.out 2)|(go_at_call 65;(with_reducible refine (Ql.calls ((Ye l0 ZH).f0) 0 10000 false _ A9.out).mono ?_);rintro e w' ⟨rfl,⟨nd,rfl⟩⟩))
       go_roundg k1
       case measure=>have:=HK1.out;omega
       case rel=>exact ⟨(false),(wrap64 (ZH+1)),(by first|rfl|(simp;done)|(simp [*];done)),(by first|rfl|(simp;done)|(simp [*];done)),H',⟨by have:=HK1.out;omega⟩,⟨by (with_reducible repeat (first|refine Q4 ?_ _|refine Q6 ?_|refine Q3 ?_ _));refine Qm ?_ Js.out _;(with_reducible repeat (first|refine Q4 ?_ _|refine Q6 ?_|refine Q3 ?_ _));refine Qm ?_ Js.out _;(with_reducible repeat (first|refine Q4 ?_ _|refine Q6 ?_|refine Q3 ?_ _));refine Qm ?_ Js.out _;(with_reducible repeat (first|refine Q4 ?_ _|refine Q6 ?_|refine Q3 ?_ _));exact Za.out⟩,⟨by repeat (first|(with_reducible first|exact HB.out|apply Q2|apply Q0|apply Q5|refine Q7 ?_ Jq.out|refine Q7 ?_ qcC.out)|exact HB.out)⟩⟩
      replace c8:=Bool.eq_false_iff.mpr c8;subst c8
      have H1:(QQ.l0 k1 l0 a1 a2 false l0 (l0.length:Int) (wrap64 (ZH+1)))=some (r1,r2,r3):=by rw [if_neg (show ¬ (false=true) by decide)] at H;exact H
      clear H;have H:=H1;clear H1;have H':=Q1.mk H;clear H;have XZ:0≤(ZH:Int):=of_decide_eq_true (by first|(with_reducible assumption)|assumption);have qaa:ZH<(l0.length:Int):=of_decide_eq_true (by first|(with_reducible assumption)|assumption);obtain ⟨qnJ,qjA,Gf,Gg,Gh⟩:=qc8 HR0.out ZH XZ qaa;cases qjA;replace Gf:=(HB.out.cell (World.block_lt_of_cell? w _ Gf)).trans Gf;replace Gg:=(HB.out.cell (World.block_lt_of_cell? w _ Gg)).trans Gg;replace Gh:=(HB.out.cell (World.block_lt_of_cell? w _ Gh)).trans Gh;replace XZ:=eq_true XZ;replace qaa:=eq_true qaa
      go_wp2_with (first|((with_reducible refine Y0 (N:=10) rfl ?_);refine Yv ?hg (N:=10) ?hd (cs:=#[.int .i64 0,.int .i64 0,.int .i64 0]) (t:=68) ?hr ?_;(case hd=>rfl);(case hg=>rfl);(case hr=>first|(go_simp;done)|(go_simp;rfl));intro Ge hg w19 hbox hb;have n0_:=Q1.mk (Qf (g:=ZY) (by (with_reducible repeat (first|refine Q4 ?_ _|refine Q6 ?_|refine Q3 ?_ _));exact Za.out) hb);have n1_:=Q1.mk (Qj (by repeat (first|(with_reducible first|exact HB.out|apply Q2|apply Q0|apply Q5|refine Q7 ?_ Jq.out)|exact HB.out)) hb);have n2_:=Q1.mk (hbox);have n3_:=Q1.mk ((by rw [hg];exact (Qe (by repeat (first|(with_reducible first|exact HB.out|apply Q2|apply Q0|apply Q5|refine Q7 ?_ Jq.out)|exact HB.out))):w.heap.size≤Ge));have n4_:=n3_;have n5_:=Q1.mk ((by rw [hg];exact Nat.ne_of_lt (QL (g:=ZY) (by (with_reducible repeat (first|refine Q4 ?_ _|refine Q6 ?_|refine Q3 ?_ _));exact Za.out)):ZY≠Ge));have n6_:=Q1.mk (n5_.out.symm);clear Za HB;have Za:=n0_;have HB:=n1_;have Gi:=n2_;have qnd:=n3_;have qcC:=n4_;have Js:=n5_;have Uq:=n6_;clear n0_ n1_ n2_ n3_ n4_ n5_ n6_ hb hbox hg;have qrI:=Uq.out;have qrW:=Js.out;have Oc:w19.cell? ⟨Ge,0,none⟩=some (.int .i64 0):=(Q8 Gi.out 0).trans rfl;have Od:w19.cell? ⟨Ge,1,none⟩=some (.int .i64 0):=(Q8 Gi.out 1).trans rfl;have Oe:w19.cell? ⟨Ge,2,none⟩=some (.int .i64 0):=(Q8 Gi.out 2).trans rfl;have Oh:=Q9 Gi.out 0;have Oi:=Q9 Gi.out 1;have Oj:=Q9 Gi.out 2))
      go_roundg k1
      case measure=>have:=HK1.out;omega
      case rel=>exact ⟨(false),(wrap64 (ZH+1)),(by first|rfl|(simp;done)|(simp [*];done)),(by first|rfl|(simp;done)|(simp [*];done)),H',⟨by have:=HK1.out;omega⟩,⟨by (with_reducible repeat (first|refine Q4 ?_ _|refine Q6 ?_|refine Q3 ?_ _));refine Qm ?_ Js.out _;(with_reducible repeat (first|refine Q4 ?_ _|refine Q6 ?_|refine Q3 ?_ _));refine Qm ?_ Js.out _;(with_reducible repeat (first|refine Q4 ?_ _|refine Q6 ?_|refine Q3 ?_ _));refine Qm ?_ Js.out _;(with_reducible repeat (first|refine Q4 ?_ _|refine Q6 ?_|refine Q3 ?_ _));exact Za.out⟩,⟨by repeat (first|(with_reducible first|exact HB.out|apply Q2|apply Q0|apply Q5|refine Q7 ?_ Jq.out|refine Q7 ?_ qcC.out)|exact HB.out)⟩⟩
     rw [if_neg c7] at H
     exact absurd H (by simp)
    rw [if_neg c6] at H
    exact absurd H (by simp)
   rw [if_neg c5] at H
   have c5b0:decide (ZH<(l0.length:Int))=false:=decide_eq_false c5
   clear c5
   by_cases c22:GJ=true
   ·
    subst c22
    have H1:((Ql.f a1 0 20).bind fun t107=>(if t107=true then ((Ql.f a2 a1 20).bind fun qks=>(QQ.j1 k1 l0 a1 a2 (!qks))) else (QQ.j1 k1 l0 a1 a2 true)))=some (r1,r2,r3):=by rw [if_pos rfl] at H;exact H
    clear H;have H:=H1;clear H1;have qfP:=Q1.mk H;clear H
    go_upto_region 9 with (fail)
    go_cut [46] (fun v46 wc => ∃ (kq:Nat) (qee:Bool),v46 = .bool qee∧Q1 (QQ.j1 kq l0 a1 a2 qee=some (r1,r2,r3))∧Q1 (kq≤k1)∧Q1 (wc.heap[ZY]? = some (.cells #[.int .i64 0,.int .i64 0] 25 (0,0)))∧Q1 (Below w.heap.size w wc))
    case first =>
     have H:=qfP.out;clear qfP;replace H:=Option.bind_eq_some_iff.mp H;obtain ⟨t107,qem,H⟩:=H;replace H:(if t107=true then ((Ql.f a2 a1 20).bind fun qks=>(QQ.j1 k1 l0 a1 a2 (!qks))) else (QQ.j1 k1 l0 a1 a2 true))=some (r1,r2,r3):=H;have A24:=Q1.mk qem;clear qem
     by_cases c25:t107=true
     ·
      subst c25
      have H1:((Ql.f a2 a1 20).bind fun qks=>(QQ.j1 k1 l0 a1 a2 (!qks)))=some (r1,r2,r3):=by rw [if_pos rfl] at H;exact H
      clear H;have H:=H1;clear H1;replace H:=Option.bind_eq_some_iff.mp H;obtain ⟨qks,qps,H⟩:=H;replace H:(QQ.j1 k1 l0 a1 a2 (!qks))=some (r1,r2,r3):=H;have A26:=Q1.mk qps;clear qps;have H':=Q1.mk H;clear H
      go_wp2_with (first|((with_reducible refine Qp (f:=65) rfl ?_);refine Yd (some 39) rfl rfl Try.func65 (by kernel_rfl) rfl #[.int .i64 a1,.int .i64 0,.int .i64 20] rfl (by (try simp only [List.map_toArray,List.map_cons,List.map_nil]);first|done|rfl|(simp only [List.length_drop,List.length_take];rfl)) ?_;(with_reducible refine (Ql.calls a1 0 20 true _ A24.out).mono ?_);rintro e w' ⟨rfl,⟨nd,rfl⟩⟩;refine ⟨_,rfl,?_⟩)|(go_at_call 65;(with_reducible refine (Ql.calls a2 a1 20 qks _ A26.out).mono ?_);rintro e w' ⟨rfl,⟨nd,rfl⟩⟩))
      go_meet
      case rel=>exact ⟨_,(!qks),(by first|rfl|(simp;done)|(simp [*];done)),H',⟨by have:=HK1.out;first|omega|exact Nat.le_refl _⟩,⟨by (with_reducible repeat (first|refine Q4 ?_ _|refine Q6 ?_|refine Q3 ?_ _));exact Za.out⟩,⟨by repeat (first|(with_reducible first|exact HB.out|apply Q2|apply Q0|apply Q5|refine Q7 ?_ Jq.out)|exact HB.out)⟩⟩
     replace c25:=Bool.eq_false_iff.mpr c25;subst c25
     have H1:(QQ.j1 k1 l0 a1 a2 true)=some (r1,r2,r3):=by rw [if_neg (show ¬ (false=true) by decide)] at H;exact H
     clear H;have H:=H1;clear H1;have H':=Q1.mk H;clear H
     go_wp2_with (first|((with_reducible refine Qp (f:=65) rfl ?_);refine Yd (some 39) rfl rfl Try.func65 (by kernel_rfl) rfl #[.int .i64 a1,.int .i64 0,.int .i64 20] rfl (by (try simp only [List.map_toArray,List.map_cons,List.map_nil]);first|done|rfl|(simp only [List.length_drop,List.length_take];rfl)) ?_;(with_reducible refine (Ql.calls a1 0 20 false _ A24.out).mono ?_);rintro e w' ⟨rfl,⟨nd,rfl⟩⟩;refine ⟨_,rfl,?_⟩))
     go_meet
     case rel=>exact ⟨_,(true),(by first|rfl|(simp;done)|(simp [*];done)),H',⟨by have:=HK1.out;first|omega|exact Nat.le_refl _⟩,⟨by (with_reducible repeat (first|refine Q4 ?_ _|refine Q6 ?_|refine Q3 ?_ _));exact Za.out⟩,⟨by repeat (first|(with_reducible first|exact HB.out|apply Q2|apply Q0|apply Q5|refine Q7 ?_ Jq.out)|exact HB.out)⟩⟩
    case rest =>
     clear qfP;(try clear c1);(try clear p1);(try clear q1);(try clear hx1);(try clear c2);(try clear p2);(try clear c5);(try clear c5b0);(try clear c6);(try clear c6b0);(try clear p6);(try clear c7);(try clear c7b0);(try clear c8);(try clear c10);(try clear p10);(try clear q10);(try clear qsd);(try clear c13);(try clear c17);(try clear c19);(try clear c20);(try clear c22);(try clear c25);(try clear ON);(try clear OO);(try clear OP);(try clear OT);(try clear OU);(try clear OV);(try clear Oc);(try clear Od);(try clear Oe);(try clear OZ);(try clear U0);(try clear U1);(try clear U5);(try clear U6);(try clear U7);(try clear Oh);(try clear Oi);(try clear Oj);(try clear Gf);(try clear Gg);(try clear Gh);(try clear XZ);(try clear p2);(try clear qaa);obtain ⟨kq,qee,rfl,HA,Ui,Za,HB⟩:=hcut
     cases kq with
     | zero=>exact absurd HA.out (by simp [QQ.j1])
     | succ W4 =>
      have H:=HA.out;clear HA;simp only [QQ.j1] at H
      by_cases c27:qee=true
      ·
       subst c27
       have H1:(some (0,0,7))=some (r1,r2,r3):=by rw [if_pos rfl] at H;exact H
       clear H;have H:=H1;clear H1;simp only [Option.some.injEq,Prod.mk.injEq] at H;obtain ⟨rfl,rfl,rfl⟩:=H;have qdl:wc.cell? ⟨ZY,0,none⟩=some (.int .i64 0):=(Q8 Za.out 0).trans rfl;have qdm:wc.cell? ⟨ZY,1,none⟩=some (.int .i64 0):=(Q8 Za.out 1).trans rfl;have qdx:=Q9 Za.out 0;have qdy:=Q9 Za.out 1
       go_wp2
       refine bodyPost_ret (X7 rfl _ _ ZY 25 #[.int .i64 0,.int .i64 0] (0,0) _ rfl (by (with_reducible repeat (first|refine Q4 ?_ _|refine Q6 ?_|refine Q3 ?_ _));refine Qv (cs:=#[.int .i64 0,.int .i64 0]) ?_ 1 _ rfl;(with_reducible repeat (first|refine Q4 ?_ _|refine Q6 ?_|refine Q3 ?_ _));refine Qv (cs:=#[.int .i64 0,.int .i64 0]) ?_ 0 _ rfl;(with_reducible repeat (first|refine Q4 ?_ _|refine Q6 ?_|refine Q3 ?_ _));exact Za.out) Try.underlying25 rfl (by kernel_rfl)) rfl ?_
       exact ⟨by first|rfl|(simp [Qs,Qt]<;>rfl)|(simp [*,Qs,Qt]<;>rfl),by repeat (first|(with_reducible first|exact HB.out|apply Q2|apply Q0|apply Q5|refine Q7 ?_ Jq.out)|exact HB.out)⟩
      replace c27:=Bool.eq_false_iff.mpr c27;subst c27
      have H1:(QQ.l1 W4 a1 a2 l0 (l0.length:Int) 0 0 0)=some (r1,r2,r3):=by rw [if_neg (show ¬ (false=true) by decide)] at H;exact H
      clear H;have H:=H1;clear H1;have H':=Q1.mk H;clear H
      go_wp2_with (first|((with_reducible refine Y0 (N:=11) rfl ?_);refine Yv ?hg (N:=11) ?hd (cs:=#[.int .i64 0,.int .i64 0]) (t:=25) ?hr ?_;(case hd=>rfl);(case hg=>rfl);(case hr=>first|(go_simp;done)|(go_simp;rfl));intro GN hg w29 hbox hb;have n0_:=Q1.mk (Qf (g:=ZY) (by (with_reducible repeat (first|refine Q4 ?_ _|refine Q6 ?_|refine Q3 ?_ _));exact Za.out) hb);have n1_:=Q1.mk (Qj (by repeat (first|(with_reducible first|exact HB.out|apply Q2|apply Q0|apply Q5|refine Q7 ?_ Jq.out)|exact HB.out)) hb);have n2_:=Q1.mk (hbox);have n3_:=Q1.mk ((by rw [hg];exact (Qe (by repeat (first|(with_reducible first|exact HB.out|apply Q2|apply Q0|apply Q5|refine Q7 ?_ Jq.out)|exact HB.out))):w.heap.size≤GN));have n4_:=n3_;have n5_:=Q1.mk ((by rw [hg];exact Nat.ne_of_lt (QL (g:=ZY) (by (with_reducible repeat (first|refine Q4 ?_ _|refine Q6 ?_|refine Q3 ?_ _));exact Za.out)):ZY≠GN));have n6_:=Q1.mk (n5_.out.symm);clear Za HB;have Za:=n0_;have HB:=n1_;have Jh:=n2_;have qAa:=n3_;have Un:=n4_;have G7:=n5_;have Ur:=n6_;clear n0_ n1_ n2_ n3_ n4_ n5_ n6_ hb hbox hg))
      go_loopg [50] W4 (fun kq v50 w' => ∃ (YE:Int) (YR:Int) (YT:Int),v50 = .int .i64 YE∧Q1 (QQ.l1 kq a1 a2 l0 (l0.length:Int) YE YR YT=some (r1,r2,r3))∧Q1 (kq≤W4)∧Q1 (w'.heap[ZY]? = some (.cells #[.int .i64 0,.int .i64 0] 25 (0,0)))∧Q1 (w'.heap[GN]? = some (.cells #[.int .i64 YR,.int .i64 YT] 25 (0,0)))∧Q1 (Below w.heap.size w w'))
      case atStart=>exact ⟨(0),(0),(0),(by first|rfl|(simp;done)|(simp [*];done)),H',⟨Nat.le_refl _⟩,⟨by (with_reducible repeat (first|refine Q4 ?_ _|refine Q6 ?_|refine Q3 ?_ _));exact Za.out⟩,⟨by (with_reducible repeat (first|refine Q4 ?_ _|refine Q6 ?_|refine Q3 ?_ _));exact Jh.out⟩,⟨by repeat (first|(with_reducible first|exact HB.out|apply Q2|apply Q0|apply Q5|refine Q7 ?_ Jq.out|refine Q7 ?_ Un.out)|exact HB.out)⟩⟩
      case round =>
       clear H';(try clear c1);(try clear p1);(try clear q1);(try clear hx1);(try clear c2);(try clear p2);(try clear c5);(try clear c5b0);(try clear c6);(try clear c6b0);(try clear p6);(try clear c7);(try clear c7b0);(try clear c8);(try clear c10);(try clear p10);(try clear q10);(try clear qsd);(try clear c13);(try clear c17);(try clear c19);(try clear c20);(try clear c22);(try clear c25);(try clear c27);(try clear ON);(try clear OO);(try clear OP);(try clear OT);(try clear OU);(try clear OV);(try clear Oc);(try clear Od);(try clear Oe);(try clear qdl);(try clear qdm);(try clear OZ);(try clear U0);(try clear U1);(try clear U5);(try clear U6);(try clear U7);(try clear Oh);(try clear Oi);(try clear Oj);(try clear qdx);(try clear qdy);(try clear Gf);(try clear Gg);(try clear Gh);(try clear p1);(try clear p10);(try clear XZ);(try clear p2);(try clear p6);(try clear q1);(try clear q10);(try clear qaa);obtain ⟨YE,YR,YT,rfl,HA,HK3,Za,Jh,HB⟩:=hrel
       cases gk with
       | zero=>exact absurd HA.out (by simp [QQ.l1])
       | succ k3 =>
        have H:=HA.out;clear HA;simp only [QQ.l1] at H
        by_cases c30:YE<(l0.length:Int)
        ·
         rw [if_pos c30] at H;have c30b0:decide (YE<(l0.length:Int))=true:=decide_eq_true c30;clear c30
         by_cases c31:0≤YE
         ·
          rw [if_pos c31] at H;have c31b0:decide (0≤YE)=true:=decide_eq_true c31;clear c31
          by_cases c32:YE<(l0.length:Int)
          ·
           rw [if_pos c32] at H;have c32b0:decide (YE<(l0.length:Int))=true:=decide_eq_true c32;clear c32;have qod:=Q1.mk H;clear H;have qmF:0≤(YE:Int):=of_decide_eq_true (by first|(with_reducible assumption)|assumption);have qmM:YE<(l0.length:Int):=of_decide_eq_true (by first|(with_reducible assumption)|assumption);obtain ⟨qAo,qyS,qbw,qbx,qby⟩:=qc8 HR0.out YE qmF qmM;cases qyS;replace qbw:=(HB.out.cell (World.block_lt_of_cell? w _ qbw)).trans qbw;replace qbx:=(HB.out.cell (World.block_lt_of_cell? w _ qbx)).trans qbx;replace qby:=(HB.out.cell (World.block_lt_of_cell? w _ qby)).trans qby;replace qmF:=eq_true qmF;replace qmM:=eq_true qmM
           go_upto_region 15 with (first|((with_reducible refine Y0 (N:=13) rfl ?_);refine Yv ?hg (N:=13) ?hd (cs:=#[.int .i64 0,.int .i64 0,.int .i64 0]) (t:=68) ?hr ?_;(case hd=>rfl);(case hg=>rfl);(case hr=>first|(go_simp;done)|(go_simp;rfl));intro Jv hg w34 hbox hb;have n0_:=Q1.mk (Qf (g:=ZY) (by (with_reducible repeat (first|refine Q4 ?_ _|refine Q6 ?_|refine Q3 ?_ _));exact Za.out) hb);have n1_:=Q1.mk (Qf (g:=GN) (by (with_reducible repeat (first|refine Q4 ?_ _|refine Q6 ?_|refine Q3 ?_ _));exact Jh.out) hb);have n2_:=Q1.mk (Qj (by repeat (first|(with_reducible first|exact HB.out|apply Q2|apply Q0|apply Q5|refine Q7 ?_ Jq.out|refine Q7 ?_ Un.out)|exact HB.out)) hb);have n3_:=Q1.mk (hbox);have n4_:=Q1.mk ((by rw [hg];exact (Qe (by repeat (first|(with_reducible first|exact HB.out|apply Q2|apply Q0|apply Q5|refine Q7 ?_ Jq.out|refine Q7 ?_ Un.out)|exact HB.out))):w.heap.size≤Jv));have n5_:=n4_;have n6_:=Q1.mk ((by rw [hg];exact Nat.ne_of_lt (QL (g:=ZY) (by (with_reducible repeat (first|refine Q4 ?_ _|refine Q6 ?_|refine Q3 ?_ _));exact Za.out)):ZY≠Jv));have n7_:=Q1.mk (n6_.out.symm);have n8_:=Q1.mk ((by rw [hg];exact Nat.ne_of_lt (QL (g:=GN) (by (with_reducible repeat (first|refine Q4 ?_ _|refine Q6 ?_|refine Q3 ?_ _));exact Jh.out)):GN≠Jv));have n9_:=Q1.mk (n8_.out.symm);clear Za Jh HB;have Za:=n0_;have Jh:=n1_;have HB:=n2_;have Zp:=n3_;have qAb:=n4_;have qaD:=n5_;have Je:=n6_;have Gq:=n7_;have Jf:=n8_;have Gr:=n9_;clear n0_ n1_ n2_ n3_ n4_ n5_ n6_ n7_ n8_ n9_ hb hbox hg;have qrJ:=Gq.out;have qrX:=Je.out;have qrK:=Gr.out;have qrY:=Jf.out;have qlp:w34.cell? ⟨Jv,0,none⟩=some (.int .i64 0):=(Q8 Zp.out 0).trans rfl;have qlq:w34.cell? ⟨Jv,1,none⟩=some (.int .i64 0):=(Q8 Zp.out 1).trans rfl;have qlr:w34.cell? ⟨Jv,2,none⟩=some (.int .i64 0):=(Q8 Zp.out 2).trans rfl;have ql1:=Q9 Zp.out 0;have ql2:=Q9 Zp.out 1;have ql3:=Q9 Zp.out 2))
           (try simp only [Act.put,List.setIfInBounds_toArray,List.set_cons_zero,List.set_cons_succ])
           go_cut [65] (fun v65 wc => ∃ (kq:Nat) (qeg:Bool),v65 = .bool qeg∧Q1 (QQ.j3 kq a1 a2 l0 (l0.length:Int) YE qeg YR YT ((Ye l0 YE).f0) ((Ye l0 YE).f1.f0) ((Ye l0 YE).f1.f1)=some (r1,r2,r3))∧Q1 (kq≤k3)∧Q1 (wc.heap[ZY]? = some (.cells #[.int .i64 0,.int .i64 0] 25 (0,0)))∧Q1 (wc.heap[GN]? = some (.cells #[.int .i64 YR,.int .i64 YT] 25 (0,0)))∧Q1 (wc.heap[Jv]? = some (.cells #[.int .i64 ((Ye l0 YE).f0),.int .i64 ((Ye l0 YE).f1.f0),.int .i64 ((Ye l0 YE).f1.f1)] 68 (0,0)))∧Q1 (Below w.heap.size w wc))
           case first =>
            have H:=qod.out;clear qod
            by_cases c38:a1≤((Ye l0 YE).f1.f0)
            ·
             rw [if_pos c38] at H;have c38b0:decide (a1≤((Ye l0 YE).f1.f0))=true:=decide_eq_true c38;clear c38
             (first|rw [c38b0]|(simp only [Yn,YA];rw [c38b0])|skip)
             have H':=Q1.mk H;clear H;have qnR:=Gq.out;have qnS:=Je.out;have qrL:=Gr.out;have qrZ:=Jf.out;have qhs:w34.cell? ⟨Jv,0,none⟩=some (.int .i64 0):=(Q8 Zp.out 0).trans rfl;have qht:w34.cell? ⟨Jv,1,none⟩=some (.int .i64 0):=(Q8 Zp.out 1).trans rfl;have qhu:w34.cell? ⟨Jv,2,none⟩=some (.int .i64 0):=(Q8 Zp.out 2).trans rfl;have qhv:=Q9 Zp.out 0;have qhw:=Q9 Zp.out 1;have qhx:=Q9 Zp.out 2
             go_wp2
             go_meet
             case rel=>exact ⟨_,(decide (((Ye l0 YE).f1.f1)≤a2)),(by first|rfl|(simp;done)|(simp [*];done)),H',⟨by have:=HK1.out;have:=Ui.out;have:=HK3.out;first|omega|exact Nat.le_refl _⟩,⟨by (with_reducible repeat (first|refine Q4 ?_ _|refine Q6 ?_|refine Q3 ?_ _));refine Qm ?_ Je.out _;(with_reducible repeat (first|refine Q4 ?_ _|refine Q6 ?_|refine Q3 ?_ _));refine Qm ?_ Je.out _;(with_reducible repeat (first|refine Q4 ?_ _|refine Q6 ?_|refine Q3 ?_ _));refine Qm ?_ Je.out _;(with_reducible repeat (first|refine Q4 ?_ _|refine Q6 ?_|refine Q3 ?_ _));exact Za.out⟩,⟨by (with_reducible repeat (first|refine Q4 ?_ _|refine Q6 ?_|refine Q3 ?_ _));refine Qm ?_ Jf.out _;(with_reducible repeat (first|refine Q4 ?_ _|refine Q6 ?_|refine Q3 ?_ _));refine Qm ?_ Jf.out _;(with_reducible repeat (first|refine Q4 ?_ _|refine Q6 ?_|refine Q3 ?_ _));refine Qm ?_ Jf.out _;(with_reducible repeat (first|refine Q4 ?_ _|refine Q6 ?_|refine Q3 ?_ _));exact Jh.out⟩,⟨by (with_reducible repeat (first|refine Q4 ?_ _|refine Q6 ?_|refine Q3 ?_ _));refine Qv (cs:=#[.int .i64 ((Ye l0 YE).f0),.int .i64 ((Ye l0 YE).f1.f0),.int .i64 0]) ?_ 2 _ rfl;(with_reducible repeat (first|refine Q4 ?_ _|refine Q6 ?_|refine Q3 ?_ _));refine Qv (cs:=#[.int .i64 ((Ye l0 YE).f0),.int .i64 0,.int .i64 0]) ?_ 1 _ rfl;(with_reducible repeat (first|refine Q4 ?_ _|refine Q6 ?_|refine Q3 ?_ _));refine Qv (cs:=#[.int .i64 0,.int .i64 0,.int .i64 0]) ?_ 0 _ rfl;(with_reducible repeat (first|refine Q4 ?_ _|refine Q6 ?_|refine Q3 ?_ _));exact Zp.out⟩,⟨by repeat (first|(with_reducible first|exact HB.out|apply Q2|apply Q0|apply Q5|refine Q7 ?_ Jq.out|refine Q7 ?_ Un.out|refine Q7 ?_ qaD.out)|exact HB.out)⟩⟩
            rw [if_neg c38] at H;have c38b0:decide (a1≤((Ye l0 YE).f1.f0))=false:=decide_eq_false c38;clear c38
            (first|rw [c38b0]|(simp only [Yn,YA];rw [c38b0])|skip)
            have H':=Q1.mk H;clear H;have qrM:=Gq.out;have qr0:=Je.out;have qA6:=Gr.out;have qBI:=Jf.out;have qly:w34.cell? ⟨Jv,0,none⟩=some (.int .i64 0):=(Q8 Zp.out 0).trans rfl;have qlz:w34.cell? ⟨Jv,1,none⟩=some (.int .i64 0):=(Q8 Zp.out 1).trans rfl;have qlA:w34.cell? ⟨Jv,2,none⟩=some (.int .i64 0):=(Q8 Zp.out 2).trans rfl;have qma:=Q9 Zp.out 0;have qmb:=Q9 Zp.out 1;have qmc:=Q9 Zp.out 2
            go_wp2
            go_meet
            case rel=>exact ⟨_,(false),(by first|rfl|(simp;done)|(simp [*];done)),H',⟨by have:=HK1.out;have:=Ui.out;have:=HK3.out;first|omega|exact Nat.le_refl _⟩,⟨by (with_reducible repeat (first|refine Q4 ?_ _|refine Q6 ?_|refine Q3 ?_ _));refine Qm ?_ Je.out _;(with_reducible repeat (first|refine Q4 ?_ _|refine Q6 ?_|refine Q3 ?_ _));refine Qm ?_ Je.out _;(with_reducible repeat (first|refine Q4 ?_ _|refine Q6 ?_|refine Q3 ?_ _));refine Qm ?_ Je.out _;(with_reducible repeat (first|refine Q4 ?_ _|refine Q6 ?_|refine Q3 ?_ _));exact Za.out⟩,⟨by (with_reducible repeat (first|refine Q4 ?_ _|refine Q6 ?_|refine Q3 ?_ _));refine Qm ?_ Jf.out _;(with_reducible repeat (first|refine Q4 ?_ _|refine Q6 ?_|refine Q3 ?_ _));refine Qm ?_ Jf.out _;(with_reducible repeat (first|refine Q4 ?_ _|refine Q6 ?_|refine Q3 ?_ _));refine Qm ?_ Jf.out _;(with_reducible repeat (first|refine Q4 ?_ _|refine Q6 ?_|refine Q3 ?_ _));exact Jh.out⟩,⟨by (with_reducible repeat (first|refine Q4 ?_ _|refine Q6 ?_|refine Q3 ?_ _));refine Qv (cs:=#[.int .i64 ((Ye l0 YE).f0),.int .i64 ((Ye l0 YE).f1.f0),.int .i64 0]) ?_ 2 _ rfl;(with_reducible repeat (first|refine Q4 ?_ _|refine Q6 ?_|refine Q3 ?_ _));refine Qv (cs:=#[.int .i64 ((Ye l0 YE).f0),.int .i64 0,.int .i64 0]) ?_ 1 _ rfl;(with_reducible repeat (first|refine Q4 ?_ _|refine Q6 ?_|refine Q3 ?_ _));refine Qv (cs:=#[.int .i64 0,.int .i64 0,.int .i64 0]) ?_ 0 _ rfl;(with_reducible repeat (first|refine Q4 ?_ _|refine Q6 ?_|refine Q3 ?_ _));exact Zp.out⟩,⟨by repeat (first|(with_reducible first|exact HB.out|apply Q2|apply Q0|apply Q5|refine Q7 ?_ Jq.out|refine Q7 ?_ Un.out|refine Q7 ?_ qaD.out)|exact HB.out)⟩⟩
           case rest =>
            clear qod;(try clear c1);(try clear p1);(try clear q1);(try clear hx1);(try clear c2);(try clear p2);(try clear c3);(try clear c4);(try clear c5);(try clear c5b0);(try clear c6);(try clear c6b0);(try clear p6);(try clear c7);(try clear c7b0);(try clear c8);(try clear c10);(try clear p10);(try clear q10);(try clear qsd);(try clear p11);(try clear q11);(try clear qC7);(try clear c13);(try clear c17);(try clear c19);(try clear c20);(try clear c22);(try clear c25);(try clear c27);(try clear c30);(try clear c30b0);(try clear c31);(try clear c31b0);(try clear c32);(try clear c32b0);(try clear c35);(try clear c36);(try clear c38);(try clear c38b0);(try clear c39);(try clear c40);(try clear c42);(try clear c43);(try clear ON);(try clear OO);(try clear OP);(try clear OT);(try clear OU);(try clear OV);(try clear Oc);(try clear Od);(try clear Oe);(try clear qdl);(try clear qdm);(try clear qlp);(try clear qlq);(try clear qlr);(try clear qhs);(try clear qht);(try clear qhu);(try clear qly);(try clear qlz);(try clear qlA);(try clear OZ);(try clear U0);(try clear U1);(try clear U5);(try clear U6);(try clear U7);(try clear Oh);(try clear Oi);(try clear Oj);(try clear qdx);(try clear qdy);(try clear ql1);(try clear ql2);(try clear ql3);(try clear qhv);(try clear qhw);(try clear qhx);(try clear qma);(try clear qmb);(try clear qmc);(try clear Gf);(try clear Gg);(try clear Gh);(try clear qbw);(try clear qbx);(try clear qby);(try clear p1);(try clear p10);(try clear XZ);(try clear qmF);(try clear p2);(try clear p6);(try clear q1);(try clear q10);(try clear qaa);(try clear qmM);obtain ⟨kq,qeg,rfl,HA,qaR,Za,Jh,Zp,HB⟩:=hcut
            cases kq with
            | zero=>exact absurd HA.out (by simp [QQ.j3])
            | succ qaT =>
             have H:=HA.out;clear HA;simp only [QQ.j3] at H
             by_cases c45:qeg=true
             ·
              subst c45
              have H1:(if a1≤((Ye l0 YE).f1.f1) then (if ((Ye l0 YE).f1.f0)≤a2 then (QQ.l1 qaT a1 a2 l0 (l0.length:Int) (wrap64 (YE+1)) (wrap64 (YR+((Ye l0 YE).f0))) (wrap64 (YT+((Ye l0 YE).f0)))) else (QQ.l1 qaT a1 a2 l0 (l0.length:Int) (wrap64 (YE+1)) (wrap64 (YR+((Ye l0 YE).f0))) YT)) else (QQ.l1 qaT a1 a2 l0 (l0.length:Int) (wrap64 (YE+1)) (wrap64 (YR+((Ye l0 YE).f0))) YT))=some (r1,r2,r3):=by rw [if_pos rfl] at H;exact H
              clear H;have H:=H1;clear H1
              by_cases c46:a1≤((Ye l0 YE).f1.f1)
              ·
               rw [if_pos c46] at H;have c46b0:decide (a1≤((Ye l0 YE).f1.f1))=true:=decide_eq_true c46;clear c46
               by_cases c47:((Ye l0 YE).f1.f0)≤a2
               ·
                rw [if_pos c47] at H;have c47b0:decide (((Ye l0 YE).f1.f0)≤a2)=true:=decide_eq_true c47;clear c47;have H':=Q1.mk H;clear H;have qrN:=Ur.out;have qr1:=G7.out;have qrO:=Jf.out;have qr2:=Gr.out;have qlB:wc.cell? ⟨GN,0,none⟩=some (.int .i64 YR):=(Q8 Jh.out 0).trans rfl;have qlC:wc.cell? ⟨GN,1,none⟩=some (.int .i64 YT):=(Q8 Jh.out 1).trans rfl;have qmd:=Q9 Jh.out 0;have qme:=Q9 Jh.out 1;have qA9:=Gq.out;have qBL:=Je.out;have qs9:wc.cell? ⟨Jv,0,none⟩=some (.int .i64 ((Ye l0 YE).f0)):=(Q8 Zp.out 0).trans rfl;have qta:wc.cell? ⟨Jv,1,none⟩=some (.int .i64 ((Ye l0 YE).f1.f0)):=(Q8 Zp.out 1).trans rfl;have qtb:wc.cell? ⟨Jv,2,none⟩=some (.int .i64 ((Ye l0 YE).f1.f1)):=(Q8 Zp.out 2).trans rfl;have qvb:=Q9 Zp.out 0;have qvc:=Q9 Zp.out 1;have qvd:=Q9 Zp.out 2
                go_wp2
                go_roundg qaT
                case measure=>have:=HK1.out;have:=Ui.out;have:=HK3.out;have:=qaR.out;omega
                case rel=>exact ⟨(wrap64 (YE+1)),(wrap64 (YR+((Ye l0 YE).f0))),(wrap64 (YT+((Ye l0 YE).f0))),(by first|rfl|(simp;done)|(simp [*];done)),H',⟨by have:=HK1.out;have:=Ui.out;have:=HK3.out;have:=qaR.out;omega⟩,⟨by (with_reducible repeat (first|refine Q4 ?_ _|refine Q6 ?_|refine Q3 ?_ _));refine Qm ?_ G7.out _;(with_reducible repeat (first|refine Q4 ?_ _|refine Q6 ?_|refine Q3 ?_ _));refine Qm ?_ G7.out _;(with_reducible repeat (first|refine Q4 ?_ _|refine Q6 ?_|refine Q3 ?_ _));exact Za.out⟩,⟨by (with_reducible repeat (first|refine Q4 ?_ _|refine Q6 ?_|refine Q3 ?_ _));refine Qv (cs:=#[.int .i64 (wrap64 (YR+((Ye l0 YE).f0))),.int .i64 YT]) ?_ 1 _ rfl;(with_reducible repeat (first|refine Q4 ?_ _|refine Q6 ?_|refine Q3 ?_ _));refine Qv (cs:=#[.int .i64 YR,.int .i64 YT]) ?_ 0 _ rfl;(with_reducible repeat (first|refine Q4 ?_ _|refine Q6 ?_|refine Q3 ?_ _));exact Jh.out⟩,⟨by repeat (first|(with_reducible first|exact HB.out|apply Q2|apply Q0|apply Q5|refine Q7 ?_ Jq.out|refine Q7 ?_ Un.out|refine Q7 ?_ qaD.out)|exact HB.out)⟩⟩
               rw [if_neg c47] at H;have c47b0:decide (((Ye l0 YE).f1.f0)≤a2)=false:=decide_eq_false c47;clear c47;have H':=Q1.mk H;clear H;have qBa:=Ur.out;have qBM:=G7.out;have qBb:=Jf.out;have qBN:=Gr.out;have qtc:wc.cell? ⟨GN,0,none⟩=some (.int .i64 YR):=(Q8 Jh.out 0).trans rfl;have qtd:wc.cell? ⟨GN,1,none⟩=some (.int .i64 YT):=(Q8 Jh.out 1).trans rfl;have qve:=Q9 Jh.out 0;have qvf:=Q9 Jh.out 1;have qBc:=Gq.out;have qBO:=Je.out;have qte:wc.cell? ⟨Jv,0,none⟩=some (.int .i64 ((Ye l0 YE).f0)):=(Q8 Zp.out 0).trans rfl;have qtf:wc.cell? ⟨Jv,1,none⟩=some (.int .i64 ((Ye l0 YE).f1.f0)):=(Q8 Zp.out 1).trans rfl;have qtg:wc.cell? ⟨Jv,2,none⟩=some (.int .i64 ((Ye l0 YE).f1.f1)):=(Q8 Zp.out 2).trans rfl;have qvg:=Q9 Zp.out 0;have qvh:=Q9 Zp.out 1;have qvi:=Q9 Zp.out 2
               go_wp2
               go_roundg qaT
               case measure=>have:=HK1.out;have:=Ui.out;have:=HK3.out;have:=qaR.out;omega
               case rel=>exact ⟨(wrap64 (YE+1)),(wrap64 (YR+((Ye l0 YE).f0))),(YT),(by first|rfl|(simp;done)|(simp [*];done)),H',⟨by have:=HK1.out;have:=Ui.out;have:=HK3.out;have:=qaR.out;omega⟩,⟨by (with_reducible repeat (first|refine Q4 ?_ _|refine Q6 ?_|refine Q3 ?_ _));refine Qm ?_ G7.out _;(with_reducible repeat (first|refine Q4 ?_ _|refine Q6 ?_|refine Q3 ?_ _));exact Za.out⟩,⟨by (with_reducible repeat (first|refine Q4 ?_ _|refine Q6 ?_|refine Q3 ?_ _));refine Qv (cs:=#[.int .i64 YR,.int .i64 YT]) ?_ 0 _ rfl;(with_reducible repeat (first|refine Q4 ?_ _|refine Q6 ?_|refine Q3 ?_ _));exact Jh.out⟩,⟨by repeat (first|(with_reducible first|exact HB.out|apply Q2|apply Q0|apply Q5|refine Q7 ?_ Jq.out|refine Q7 ?_ Un.out|refine Q7 ?_ qaD.out)|exact HB.out)⟩⟩
              rw [if_neg c46] at H;have c46b0:decide (a1≤((Ye l0 YE).f1.f1))=false:=decide_eq_false c46;clear c46;have H':=Q1.mk H;clear H;have qrP:=Ur.out;have qr3:=G7.out;have qrQ:=Jf.out;have qr4:=Gr.out;have qth:wc.cell? ⟨GN,0,none⟩=some (.int .i64 YR):=(Q8 Jh.out 0).trans rfl;have qti:wc.cell? ⟨GN,1,none⟩=some (.int .i64 YT):=(Q8 Jh.out 1).trans rfl;have qvj:=Q9 Jh.out 0;have qvk:=Q9 Jh.out 1;have qBe:=Gq.out;have qBQ:=Je.out;have qtk:wc.cell? ⟨Jv,0,none⟩=some (.int .i64 ((Ye l0 YE).f0)):=(Q8 Zp.out 0).trans rfl;have qtl:wc.cell? ⟨Jv,1,none⟩=some (.int .i64 ((Ye l0 YE).f1.f0)):=(Q8 Zp.out 1).trans rfl;have qtm:wc.cell? ⟨Jv,2,none⟩=some (.int .i64 ((Ye l0 YE).f1.f1)):=(Q8 Zp.out 2).trans rfl;have qvm:=Q9 Zp.out 0;have qvn:=Q9 Zp.out 1;have qvo:=Q9 Zp.out 2
              go_wp2
              go_roundg qaT
              case measure=>have:=HK1.out;have:=Ui.out;have:=HK3.out;have:=qaR.out;omega
              case rel=>exact ⟨(wrap64 (YE+1)),(wrap64 (YR+((Ye l0 YE).f0))),(YT),(by first|rfl|(simp;done)|(simp [*];done)),H',⟨by have:=HK1.out;have:=Ui.out;have:=HK3.out;have:=qaR.out;omega⟩,⟨by (with_reducible repeat (first|refine Q4 ?_ _|refine Q6 ?_|refine Q3 ?_ _));refine Qm ?_ G7.out _;(with_reducible repeat (first|refine Q4 ?_ _|refine Q6 ?_|refine Q3 ?_ _));exact Za.out⟩,⟨by (with_reducible repeat (first|refine Q4 ?_ _|refine Q6 ?_|refine Q3 ?_ _));refine Qv (cs:=#[.int .i64 YR,.int .i64 YT]) ?_ 0 _ rfl;(with_reducible repeat (first|refine Q4 ?_ _|refine Q6 ?_|refine Q3 ?_ _));exact Jh.out⟩,⟨by repeat (first|(with_reducible first|exact HB.out|apply Q2|apply Q0|apply Q5|refine Q7 ?_ Jq.out|refine Q7 ?_ Un.out|refine Q7 ?_ qaD.out)|exact HB.out)⟩⟩
             replace c45:=Bool.eq_false_iff.mpr c45;subst c45
             have H1:(if a1≤((Ye l0 YE).f1.f1) then (if ((Ye l0 YE).f1.f0)≤a2 then (QQ.l1 qaT a1 a2 l0 (l0.length:Int) (wrap64 (YE+1)) YR (wrap64 (YT+((Ye l0 YE).f0)))) else (QQ.l1 qaT a1 a2 l0 (l0.length:Int) (wrap64 (YE+1)) YR YT)) else (QQ.l1 qaT a1 a2 l0 (l0.length:Int) (wrap64 (YE+1)) YR YT))=some (r1,r2,r3):=by rw [if_neg (show ¬ (false=true) by decide)] at H;exact H
             clear H;have H:=H1;clear H1
             by_cases c63:a1≤((Ye l0 YE).f1.f1)
             ·
              rw [if_pos c63] at H;have c63b0:decide (a1≤((Ye l0 YE).f1.f1))=true:=decide_eq_true c63;clear c63
              by_cases c64:((Ye l0 YE).f1.f0)≤a2
              ·
               rw [if_pos c64] at H;have c64b0:decide (((Ye l0 YE).f1.f0)≤a2)=true:=decide_eq_true c64;clear c64;have H':=Q1.mk H;clear H;have qrR:=Gq.out;have qr5:=Je.out;have qBh:=Gr.out;have qBT:=Jf.out;have qty:wc.cell? ⟨Jv,0,none⟩=some (.int .i64 ((Ye l0 YE).f0)):=(Q8 Zp.out 0).trans rfl;have qtz:wc.cell? ⟨Jv,1,none⟩=some (.int .i64 ((Ye l0 YE).f1.f0)):=(Q8 Zp.out 1).trans rfl;have qtA:wc.cell? ⟨Jv,2,none⟩=some (.int .i64 ((Ye l0 YE).f1.f1)):=(Q8 Zp.out 2).trans rfl;have qvA:=Q9 Zp.out 0;have qvB:=Q9 Zp.out 1;have qvC:=Q9 Zp.out 2;have qBi:=Ur.out;have qBU:=G7.out;have qtB:wc.cell? ⟨GN,0,none⟩=some (.int .i64 YR):=(Q8 Jh.out 0).trans rfl;have qtC:wc.cell? ⟨GN,1,none⟩=some (.int .i64 YT):=(Q8 Jh.out 1).trans rfl;have qvD:=Q9 Jh.out 0;have qvE:=Q9 Jh.out 1
               go_wp2
               go_roundg qaT
               case measure=>have:=HK1.out;have:=Ui.out;have:=HK3.out;have:=qaR.out;omega
               case rel=>exact ⟨(wrap64 (YE+1)),(YR),(wrap64 (YT+((Ye l0 YE).f0))),(by first|rfl|(simp;done)|(simp [*];done)),H',⟨by have:=HK1.out;have:=Ui.out;have:=HK3.out;have:=qaR.out;omega⟩,⟨by (with_reducible repeat (first|refine Q4 ?_ _|refine Q6 ?_|refine Q3 ?_ _));refine Qm ?_ G7.out _;(with_reducible repeat (first|refine Q4 ?_ _|refine Q6 ?_|refine Q3 ?_ _));exact Za.out⟩,⟨by (with_reducible repeat (first|refine Q4 ?_ _|refine Q6 ?_|refine Q3 ?_ _));refine Qv (cs:=#[.int .i64 YR,.int .i64 YT]) ?_ 1 _ rfl;(with_reducible repeat (first|refine Q4 ?_ _|refine Q6 ?_|refine Q3 ?_ _));exact Jh.out⟩,⟨by repeat (first|(with_reducible first|exact HB.out|apply Q2|apply Q0|apply Q5|refine Q7 ?_ Jq.out|refine Q7 ?_ Un.out|refine Q7 ?_ qaD.out)|exact HB.out)⟩⟩
              rw [if_neg c64] at H;have c64b0:decide (((Ye l0 YE).f1.f0)≤a2)=false:=decide_eq_false c64;clear c64;have H':=Q1.mk H;clear H;have qrS:=Gq.out;have qr6:=Je.out;have qrT:=Gr.out;have qr7:=Jf.out;have qtD:wc.cell? ⟨Jv,0,none⟩=some (.int .i64 ((Ye l0 YE).f0)):=(Q8 Zp.out 0).trans rfl;have qtE:wc.cell? ⟨Jv,1,none⟩=some (.int .i64 ((Ye l0 YE).f1.f0)):=(Q8 Zp.out 1).trans rfl;have qtF:wc.cell? ⟨Jv,2,none⟩=some (.int .i64 ((Ye l0 YE).f1.f1)):=(Q8 Zp.out 2).trans rfl;have qvF:=Q9 Zp.out 0;have qvG:=Q9 Zp.out 1;have qvH:=Q9 Zp.out 2
              go_wp2
              go_roundg qaT
              case measure=>have:=HK1.out;have:=Ui.out;have:=HK3.out;have:=qaR.out;omega
              case rel=>exact ⟨(wrap64 (YE+1)),(YR),(YT),(by first|rfl|(simp;done)|(simp [*];done)),H',⟨by have:=HK1.out;have:=Ui.out;have:=HK3.out;have:=qaR.out;omega⟩,⟨by (with_reducible repeat (first|refine Q4 ?_ _|refine Q6 ?_|refine Q3 ?_ _));exact Za.out⟩,⟨by (with_reducible repeat (first|refine Q4 ?_ _|refine Q6 ?_|refine Q3 ?_ _));exact Jh.out⟩,⟨by repeat (first|(with_reducible first|exact HB.out|apply Q2|apply Q0|apply Q5|refine Q7 ?_ Jq.out|refine Q7 ?_ Un.out|refine Q7 ?_ qaD.out)|exact HB.out)⟩⟩
             rw [if_neg c63] at H;have c63b0:decide (a1≤((Ye l0 YE).f1.f1))=false:=decide_eq_false c63;clear c63;have H':=Q1.mk H;clear H;have qBl:=Gq.out;have qBX:=Je.out;have qBm:=Gr.out;have qBY:=Jf.out;have qlD:wc.cell? ⟨Jv,0,none⟩=some (.int .i64 ((Ye l0 YE).f0)):=(Q8 Zp.out 0).trans rfl;have qlE:wc.cell? ⟨Jv,1,none⟩=some (.int .i64 ((Ye l0 YE).f1.f0)):=(Q8 Zp.out 1).trans rfl;have qlF:wc.cell? ⟨Jv,2,none⟩=some (.int .i64 ((Ye l0 YE).f1.f1)):=(Q8 Zp.out 2).trans rfl;have qmf:=Q9 Zp.out 0;have qmg:=Q9 Zp.out 1;have qmh:=Q9 Zp.out 2
             go_wp2
             go_roundg qaT
             case measure=>have:=HK1.out;have:=Ui.out;have:=HK3.out;have:=qaR.out;omega
             case rel=>exact ⟨(wrap64 (YE+1)),(YR),(YT),(by first|rfl|(simp;done)|(simp [*];done)),H',⟨by have:=HK1.out;have:=Ui.out;have:=HK3.out;have:=qaR.out;omega⟩,⟨by (with_reducible repeat (first|refine Q4 ?_ _|refine Q6 ?_|refine Q3 ?_ _));exact Za.out⟩,⟨by (with_reducible repeat (first|refine Q4 ?_ _|refine Q6 ?_|refine Q3 ?_ _));exact Jh.out⟩,⟨by repeat (first|(with_reducible first|exact HB.out|apply Q2|apply Q0|apply Q5|refine Q7 ?_ Jq.out|refine Q7 ?_ Un.out|refine Q7 ?_ qaD.out)|exact HB.out)⟩⟩
          rw [if_neg c32] at H
          exact absurd H (by simp)
         rw [if_neg c31] at H
         exact absurd H (by simp)
        rw [if_neg c30] at H;have c30b0:decide (YE<(l0.length:Int))=false:=decide_eq_false c30;clear c30;simp only [Option.some.injEq,Prod.mk.injEq] at H;obtain ⟨rfl,rfl,rfl⟩:=H;have qBn:=Ur.out;have qBZ:=G7.out;have qlG:wr.cell? ⟨GN,0,none⟩=some (.int .i64 YR):=(Q8 Jh.out 0).trans rfl;have qtU:wr.cell? ⟨GN,1,none⟩=some (.int .i64 YT):=(Q8 Jh.out 1).trans rfl;have qmi:=Q9 Jh.out 0;have qvW:=Q9 Jh.out 1;have qtV:wr.cell? ⟨ZY,0,none⟩=some (.int .i64 0):=(Q8 Za.out 0).trans rfl;have qtW:wr.cell? ⟨ZY,1,none⟩=some (.int .i64 0):=(Q8 Za.out 1).trans rfl;have qvX:=Q9 Za.out 0;have qvY:=Q9 Za.out 1
        go_wp2
        refine bodyPost_ret (X7 rfl _ _ ZY 25 #[.int .i64 YR,.int .i64 YT] (0,0) _ rfl (by (with_reducible repeat (first|refine Q4 ?_ _|refine Q6 ?_|refine Q3 ?_ _));refine Qv (cs:=#[.int .i64 YR,.int .i64 0]) ?_ 1 _ rfl;(with_reducible repeat (first|refine Q4 ?_ _|refine Q6 ?_|refine Q3 ?_ _));refine Qv (cs:=#[.int .i64 0,.int .i64 0]) ?_ 0 _ rfl;(with_reducible repeat (first|refine Q4 ?_ _|refine Q6 ?_|refine Q3 ?_ _));exact Za.out) Try.underlying25 rfl (by kernel_rfl)) rfl ?_
        exact ⟨by first|rfl|(simp [Qs,Qt]<;>rfl)|(simp [*,Qs,Qt]<;>rfl),by repeat (first|(with_reducible first|exact HB.out|apply Q2|apply Q0|apply Q5|refine Q7 ?_ Jq.out|refine Q7 ?_ Un.out)|exact HB.out)⟩
   replace c22:=Bool.eq_false_iff.mpr c22
   subst c22
   have H1:(some (0,0,90))=some (r1,r2,r3):=by rw [if_neg (show ¬ (false=true) by decide)] at H;exact H
   clear H
   have H:=H1
   clear H1
   simp only [Option.some.injEq,Prod.mk.injEq] at H
   obtain ⟨rfl,rfl,rfl⟩:=H
   have qtX:wr.cell? ⟨ZY,0,none⟩=some (.int .i64 0):=(Q8 Za.out 0).trans rfl
   have qtY:wr.cell? ⟨ZY,1,none⟩=some (.int .i64 0):=(Q8 Za.out 1).trans rfl
   have qvZ:=Q9 Za.out 0
   have qv0:=Q9 Za.out 1
   go_wp2
   refine bodyPost_ret (X7 rfl _ _ ZY 25 #[.int .i64 0,.int .i64 0] (0,0) _ rfl (by (with_reducible repeat (first|refine Q4 ?_ _|refine Q6 ?_|refine Q3 ?_ _));refine Qv (cs:=#[.int .i64 0,.int .i64 0]) ?_ 1 _ rfl;(with_reducible repeat (first|refine Q4 ?_ _|refine Q6 ?_|refine Q3 ?_ _));refine Qv (cs:=#[.int .i64 0,.int .i64 0]) ?_ 0 _ rfl;(with_reducible repeat (first|refine Q4 ?_ _|refine Q6 ?_|refine Q3 ?_ _));exact Za.out) Try.underlying25 rfl (by kernel_rfl)) rfl ?_
   exact ⟨by first|rfl|(simp [Qs,Qt]<;>rfl)|(simp [*,Qs,Qt]<;>rfl),by repeat (first|(with_reducible first|exact HB.out|apply Q2|apply Q0|apply Q5|refine Q7 ?_ Jq.out)|exact HB.out)⟩
end
section
attribute [local go_sem] Yr Yt YM YN Yi Yj Ys Yu
theorem qjD (d:Nat) (w:World) (x0 y0:Int) (x1 y1:Int) :
  (Op.equalIn (d+2) 25 (.agg #[.int .i64 x0,.int .i64 x1]) (.agg #[.int .i64 y0,.int .i64 y1])).run Try.prog w = .ok (x0==y0&&(x1==y1)) w:=by
 refine qjE Try.underlying25 (by kernel_rfl) ?_
 refine qjF (by rfl) (by go_simp;rfl) (by go_simp;rfl) (by go_simp) ?_
 exact qeA (by rfl) (by go_simp;rfl) (by go_simp;rfl) (by go_simp)
end
section
attribute [local go_sem] Yr Yt YM YN Yi Yj Ys Yu
attribute [local go_sem high] qjD
def YP.l0:Nat→List (S25)→List (S25)→Int→Option (Bool)
 | 0,_,_,_=>none
 | k+1,x0,x1,x5=>if x5<(x0.length:Int) then (if 0≤x5 then (if x5<(x1.length:Int) then (if (!(((YI x0 x5).f0)==((YI x1 x5).f0))||(!(((YI x0 x5).f1)==((YI x1 x5).f1))))=true then (some false) else (YP.l0 k x0 x1 (wrap64 (x5+1)))) else (none)) else (none)) else (some true)
def YP.f (k:Nat) (l0:List (S25)) (l1:List (S25)):Option (Bool):=if (l0.length:Int)=(l1.length:Int) then (YP.l0 k l0 l1 0) else (some false)
set_option maxHeartbeats 8000000 in
set_option maxRecDepth 100000 in
theorem YP.calls (k:Nat) (A0:Option Addr) (c0:Nat) (l0:List (S25)) (A1:Option Addr) (c1:Nat) (l1:List (S25)) (r:Bool) (w:World) (hr0:Kd.C k25 w A0 l0.length l0) (hc0:l0.length≤c0) (hr1:Kd.C k25 w A1 l1.length l1) (hc1:l1.length≤c1) (h:YP.f k l0 l1=some r) :
  Calls Try.prog 24 #[.slice A0 l0.length c0,.slice A1 l1.length c1] w fun e w'=>e = .returned (.bool r)∧QS w w':=by
 have qaS:=Try.underlying25
 have HR0:=Q1.mk hr0
 have HC0:=Q1.mk hc0
 clear hr0 hc0
 have HR1:=Q1.mk hr1
 have HC1:=Q1.mk hc1
 clear hr1 hc1
 have H:(if (l0.length:Int)=(l1.length:Int) then (YP.l0 k l0 l1 0) else (some false))=some r:=h
 clear h
 by_cases c3:(l0.length:Int)=(l1.length:Int)
 ·
  rw [if_pos c3] at H
  have c3b0:((l0.length:Int)==(l1.length:Int))=true:=beq_iff_eq.mpr c3
  have c3b1:((l0.length:Int) != (l1.length:Int))=false:=bne_eq_false_iff_eq.mpr c3
  have c3b2:(l0.length==l1.length)=true:=by first|simpa using c3|(simp at c3 ⊢;omega)
  clear c3
  have H':=Q1.mk H
  clear H
  go_enter Try.func24,Try.ntmps24
  go_wp2
  repeat (go_quiet (fail);try go_wp2)
  go_loopg [5] k (fun kq v5 w' => ∃ (QV:Int),v5 = .int .i64 QV∧Q1 (YP.l0 kq l0 l1 QV=some r)∧Q1 (kq≤k)∧QS w w')
  case atStart=>exact ⟨(0),(by first|rfl|(simp;done)|(simp [*];done)),H',⟨Nat.le_refl _⟩,by repeat (first|exact QS.refl _|apply QS.step)⟩
  case round =>
   clear H'
   try clear c1
   try clear c2
   try clear p2
   try clear c3
   try clear c3b0
   try clear c3b1
   try clear c3b2
   obtain ⟨QV,rfl,HA,HK1,⟨m1,rfl⟩⟩:=hrel
   cases gk with
   | zero=>exact absurd HA.out (by simp [YP.l0])
   | succ k1 =>
    have H:=HA.out;clear HA;simp only [YP.l0] at H
    by_cases c4:QV<(l0.length:Int)
    ·
     rw [if_pos c4] at H;have c4b0:decide (QV<(l0.length:Int))=true:=decide_eq_true c4;clear c4
     by_cases c5:0≤QV
     ·
      rw [if_pos c5] at H;have c5b0:decide (0≤QV)=true:=decide_eq_true c5;clear c5
      by_cases c6:QV<(l1.length:Int)
      ·
       rw [if_pos c6] at H;have c6b0:decide (QV<(l1.length:Int))=true:=decide_eq_true c6;clear c6
       by_cases c7:(!(((YI l0 QV).f0)==((YI l1 QV).f0))||(!(((YI l0 QV).f1)==((YI l1 QV).f1))))=true
       ·
        rw [if_pos c7] at H;have c7b0:(!(((YI l0 QV).f0)==((YI l1 QV).f0))||(!(((YI l0 QV).f1)==((YI l1 QV).f1))))=true:=c7;clear c7;obtain rfl:=Option.some.inj H;have qgq:0≤(QV:Int):=of_decide_eq_true (by first|(with_reducible assumption)|assumption);have qgE:QV<(l0.length:Int):=of_decide_eq_true (by first|(with_reducible assumption)|assumption);obtain ⟨qp2,qop,qmk,qml⟩:=UG HR0.out QV qgq qgE;cases qop;replace qgq:=eq_true qgq;replace qgE:=eq_true qgE;have qgr:0≤(QV:Int):=of_decide_eq_true (by first|(with_reducible assumption)|assumption);have qgF:QV<(l1.length:Int):=of_decide_eq_true (by first|(with_reducible assumption)|assumption);obtain ⟨qp3,e143,qmm,qmn⟩:=UG HR1.out QV qgr qgF;cases e143;replace qgr:=eq_true qgr;replace qgF:=eq_true qgF
        go_wp2
        repeat (go_quiet (fail);try go_wp2)
        go_ret
        exact ⟨by first|rfl|(simp;done)|(simp [*];done),by repeat (first|exact QS.refl _|apply QS.step)⟩
       rw [if_neg c7] at H
       have c7b0:(!(((YI l0 QV).f0)==((YI l1 QV).f0))||(!(((YI l0 QV).f1)==((YI l1 QV).f1))))=false:=by simpa using c7
       clear c7;have H':=Q1.mk H;clear H;have qgq:0≤(QV:Int):=of_decide_eq_true (by first|(with_reducible assumption)|assumption);have qgE:QV<(l0.length:Int):=of_decide_eq_true (by first|(with_reducible assumption)|assumption);obtain ⟨qp2,qop,qmk,qml⟩:=UG HR0.out QV qgq qgE;cases qop;replace qgq:=eq_true qgq;replace qgE:=eq_true qgE;have qgr:0≤(QV:Int):=of_decide_eq_true (by first|(with_reducible assumption)|assumption);have qgF:QV<(l1.length:Int):=of_decide_eq_true (by first|(with_reducible assumption)|assumption);obtain ⟨qp3,e143,qmm,qmn⟩:=UG HR1.out QV qgr qgF;cases e143;replace qgr:=eq_true qgr;replace qgF:=eq_true qgF
       go_wp2
       repeat (go_quiet (fail);try go_wp2)
       go_roundg k1
       case measure=>have:=HK1.out;omega
       case rel=>exact ⟨(wrap64 (QV+1)),(by first|rfl|(simp;done)|(simp [*];done)),H',⟨by have:=HK1.out;omega⟩,by repeat (first|exact QS.refl _|apply QS.step)⟩
      rw [if_neg c6] at H
      exact absurd H (by simp)
     rw [if_neg c5] at H
     exact absurd H (by simp)
    rw [if_neg c4] at H;have c4b0:decide (QV<(l0.length:Int))=false:=decide_eq_false c4;clear c4;obtain rfl:=Option.some.inj H
    go_wp2
    repeat (go_quiet (fail);try go_wp2)
    go_ret
    exact ⟨by first|rfl|(simp;done)|(simp [*];done),by repeat (first|exact QS.refl _|apply QS.step)⟩
 rw [if_neg c3] at H
 have c3b0:((l0.length:Int)==(l1.length:Int))=false:=beq_eq_false_iff_ne.mpr c3
 have c3b1:((l0.length:Int) != (l1.length:Int))=true:=bne_iff_ne.mpr c3
 have c3b2:(l0.length==l1.length)=false:=by first|simpa using c3|(simp at c3 ⊢;omega)
 obtain rfl:=Option.some.inj H
 go_enter Try.func24,Try.ntmps24
 go_wp2
 repeat (go_quiet (fail);try go_wp2)
 go_ret
 exact ⟨by first|rfl|(simp;done)|(simp [*];done),by repeat (first|exact QS.refl _|apply QS.step)⟩
end
section
attribute [local go_sem] Yr Yt YM YN Yi Yj Ys Yu
mutual
def Qn.j0:Nat→Int→Bool→List Int→List Int→List Int→Int→Int→Option (Bool)
 | 0,_,_,_,_,_,_,_=>none
 | k+1,x3,x4,O0,O1,O2,Ue,Uf=>Qn.l0 k x3 x4 0 O0 O1 O2 Ue Uf
def Qn.l0:Nat→Int→Bool→Int→List Int→List Int→List Int→Int→Int→Option (Bool)
 | 0,_,_,_,_,_,_,_,_=>none
 | k+1,x3,x4,x5,O0,O1,O2,Ue,Uf=>if x4=true then (Qn.j2 k x3 x4 x5 (decide (x5<x3)) O0 O1 O2 Ue Uf) else (Qn.j2 k x3 x4 x5 false O0 O1 O2 Ue Uf)
def Qn.j2:Nat→Int→Bool→Int→Bool→List Int→List Int→List Int→Int→Int→Option (Bool)
 | 0,_,_,_,_,_,_,_,_,_=>none
 | k+1,x3,x4,x5,x47,O0,O1,O2,Ue,Uf=>if x47=true then (if 0≤x5 then (if x5<(O0.length:Int) then ((Ql.f (rd O0 x5) 0 100000).bind fun qiP=>(if qiP=true then (if x5<(O1.length:Int) then ((Ql.f (rd O1 x5) 0 1000).bind fun qcv=>(if qcv=true then (if x5<(O2.length:Int) then ((Ql.f (rd O2 x5) 0 100).bind fun Xa=>(Qn.l0 k x3 Xa (wrap64 (x5+1)) O0 O1 O2 Ue Uf)) else (none)) else (Qn.l0 k x3 false (wrap64 (x5+1)) O0 O1 O2 Ue Uf))) else (none)) else (Qn.l0 k x3 false (wrap64 (x5+1)) O0 O1 O2 Ue Uf))) else (none)) else (none)) else (some x4)
end
def Qn.f (k:Nat) (Qb:List Int) (Qi:List Int) (Qd:List Int) (Yc:Int) (Yb:Int):Option (Bool):=(Ql.f (Qb.length:Int) 1 6).bind fun t145=>(if t145=true then (if (Qi.length:Int)=(Qb.length:Int) then (if (Qd.length:Int)=(Qb.length:Int) then ((Ql.f Yc 0 100000000).bind fun t146=>(if t146=true then ((Ql.f Yb 0 (wrap64 ((Qb.length:Int)-1))).bind fun X9=>(Qn.j0 k (Qb.length:Int) X9 Qb Qi Qd Yc Yb)) else (Qn.j0 k (Qb.length:Int) false Qb Qi Qd Yc Yb))) else (Qn.j0 k (Qb.length:Int) false Qb Qi Qd Yc Yb)) else (Qn.j0 k (Qb.length:Int) false Qb Qi Qd Yc Yb)) else (Qn.j0 k (Qb.length:Int) false Qb Qi Qd Yc Yb))
set_option maxHeartbeats 8000000 in
set_option maxRecDepth 100000 in
theorem Qn.calls (k:Nat) (Y4:Option Addr) (QG:Nat) (Qb:List Int) (Y2:Option Addr) (QI:Nat) (Qi:List Int) (Y7:Option Addr) (QJ:Nat) (Qd:List Int) (Yc:Int) (Yb:Int) (r:Bool) (w:World) (Gl:Kd.C (Kd.int .i64) w Y4 Qb.length Qb) (GA:Qb.length≤QG) (Gm:Kd.C (Kd.int .i64) w Y2 Qi.length Qi) (GC:Qi.length≤QI) (Gn:Kd.C (Kd.int .i64) w Y7 Qd.length Qd) (GD:Qd.length≤QJ) (h:Qn.f k Qb Qi Qd Yc Yb=some r) :
  Calls Try.prog 76 #[.agg #[.slice Y4 Qb.length QG,.slice Y2 Qi.length QI,.slice Y7 Qd.length QJ,.int .i64 Yc,.int .i64 Yb]] w fun e w'=>e = .returned (.bool r)∧Below w.heap.size w w':=by
 have qj2:=Try.underlying111
 have Jr:=Q1.mk Gl
 have JK:=Q1.mk GA
 clear Gl GA
 have Jz:=Q1.mk Gm
 have JL:=Q1.mk GC
 clear Gm GC
 have JA:=Q1.mk Gn
 have JM:=Q1.mk GD
 clear Gn GD
 have HB:=Q1.mk (Below.refl w.heap.size w)
 have H:((Ql.f (Qb.length:Int) 1 6).bind fun t145=>(if t145=true then (if (Qi.length:Int)=(Qb.length:Int) then (if (Qd.length:Int)=(Qb.length:Int) then ((Ql.f Yc 0 100000000).bind fun t146=>(if t146=true then ((Ql.f Yb 0 (wrap64 ((Qb.length:Int)-1))).bind fun X9=>(Qn.j0 k (Qb.length:Int) X9 Qb Qi Qd Yc Yb)) else (Qn.j0 k (Qb.length:Int) false Qb Qi Qd Yc Yb))) else (Qn.j0 k (Qb.length:Int) false Qb Qi Qd Yc Yb)) else (Qn.j0 k (Qb.length:Int) false Qb Qi Qd Yc Yb)) else (Qn.j0 k (Qb.length:Int) false Qb Qi Qd Yc Yb)))=some r:=h
 clear h
 have HC2:=Q1.mk H
 clear H
 go_enter Try.func76,Try.ntmps76
 go_upto_region 2 with (first|((with_reducible refine Y0 (N:=1) rfl ?_);(try (refine Ke (by rfl) ?_;dsimp only));refine Yv ?hg (N:=1) ?hd (cs:=#[.slice Y4 Qb.length QG,.slice Y2 Qi.length QI,.slice Y7 Qd.length QJ,.int .i64 Yc,.int .i64 Yb]) (t:=111) ?hr ?_;(case hd=>rfl);(case hg=>rfl);(case hr=>first|(go_simp;done)|(go_simp;rfl));intro ZP hg w3 hbox hb;have n0_:=Q1.mk (Qj (by repeat (first|(with_reducible first|exact HB.out|apply Q2|apply Q0|apply Q5)|exact HB.out)) hb);have n1_:=Q1.mk (hbox);have n2_:=Q1.mk ((by rw [hg];exact (Qe (by repeat (first|(with_reducible first|exact HB.out|apply Q2|apply Q0|apply Q5)|exact HB.out))):w.heap.size≤ZP));have n3_:=n2_;clear HB;have HB:=n0_;have Yw:=n1_;have qAc:=n2_;have UV:=n3_;clear n0_ n1_ n2_ n3_ hb hbox hg;have GF:w3.cell? ⟨ZP,0,none⟩=some (.slice Y4 Qb.length QG):=(Q8 Yw.out 0).trans rfl;have GG:w3.cell? ⟨ZP,1,none⟩=some (.slice Y2 Qi.length QI):=(Q8 Yw.out 1).trans rfl;have Kf:w3.cell? ⟨ZP,2,none⟩=some (.slice Y7 Qd.length QJ):=(Q8 Yw.out 2).trans rfl;have qf4:w3.cell? ⟨ZP,3,none⟩=some (.int .i64 Yc):=(Q8 Yw.out 3).trans rfl;have qf5:w3.cell? ⟨ZP,4,none⟩=some (.int .i64 Yb):=(Q8 Yw.out 4).trans rfl;have GH:=Q9 Yw.out 0;have GI:=Q9 Yw.out 1;have Kj:=Q9 Yw.out 2;have qf8:=Q9 Yw.out 3;have qf9:=Q9 Yw.out 4))
 (try simp only [Act.put,List.setIfInBounds_toArray,List.set_cons_zero,List.set_cons_succ])
 go_cut [4] (fun v4 wc => ∃ (kq:Nat) (qan:Bool),v4 = .bool qan∧Q1 (Qn.j0 kq (Qb.length:Int) qan Qb Qi Qd Yc Yb=some r)∧Q1 (kq≤k)∧Q1 (wc.heap[ZP]? = some (.cells #[(.slice Y4 Qb.length QG),(.slice Y2 Qi.length QI),(.slice Y7 Qd.length QJ),.int .i64 Yc,.int .i64 Yb] 111 (0,0)))∧Q1 (Below w.heap.size w wc))
 case first =>
  have H:=HC2.out
  clear HC2
  replace H:=Option.bind_eq_some_iff.mp H
  obtain ⟨t145,A50,H⟩:=H
  replace H:(if t145=true then (if (Qi.length:Int)=(Qb.length:Int) then (if (Qd.length:Int)=(Qb.length:Int) then ((Ql.f Yc 0 100000000).bind fun t146=>(if t146=true then ((Ql.f Yb 0 (wrap64 ((Qb.length:Int)-1))).bind fun X9=>(Qn.j0 k (Qb.length:Int) X9 Qb Qi Qd Yc Yb)) else (Qn.j0 k (Qb.length:Int) false Qb Qi Qd Yc Yb))) else (Qn.j0 k (Qb.length:Int) false Qb Qi Qd Yc Yb)) else (Qn.j0 k (Qb.length:Int) false Qb Qi Qd Yc Yb)) else (Qn.j0 k (Qb.length:Int) false Qb Qi Qd Yc Yb))=some r:=H
  have A5:=Q1.mk A50
  clear A50
  by_cases c6:t145=true
  ·
   subst c6
   have H1:(if (Qi.length:Int)=(Qb.length:Int) then (if (Qd.length:Int)=(Qb.length:Int) then ((Ql.f Yc 0 100000000).bind fun t146=>(if t146=true then ((Ql.f Yb 0 (wrap64 ((Qb.length:Int)-1))).bind fun X9=>(Qn.j0 k (Qb.length:Int) X9 Qb Qi Qd Yc Yb)) else (Qn.j0 k (Qb.length:Int) false Qb Qi Qd Yc Yb))) else (Qn.j0 k (Qb.length:Int) false Qb Qi Qd Yc Yb)) else (Qn.j0 k (Qb.length:Int) false Qb Qi Qd Yc Yb))=some r:=by rw [if_pos rfl] at H;exact H
   clear H
   have H:=H1
   clear H1
   by_cases c7:(Qi.length:Int)=(Qb.length:Int)
   ·
    rw [if_pos c7] at H;have c7b0:((Qi.length:Int)==(Qb.length:Int))=true:=beq_iff_eq.mpr c7;have c7b1:((Qi.length:Int) != (Qb.length:Int))=false:=bne_eq_false_iff_eq.mpr c7
    have c7b2:(Qi.length==Qb.length)=true:=by first|simpa using c7|(simp at c7 ⊢;omega)
    clear c7
    (first|rw [c7b0]|(simp only [Yn,YA];rw [c7b0])|skip)
    by_cases c8:(Qd.length:Int)=(Qb.length:Int)
    ·
     rw [if_pos c8] at H;have c8b0:((Qd.length:Int)==(Qb.length:Int))=true:=beq_iff_eq.mpr c8;have c8b1:((Qd.length:Int) != (Qb.length:Int))=false:=bne_eq_false_iff_eq.mpr c8
     have c8b2:(Qd.length==Qb.length)=true:=by first|simpa using c8|(simp at c8 ⊢;omega)
     clear c8;replace H:=Option.bind_eq_some_iff.mp H;obtain ⟨t146,A90,H⟩:=H;replace H:(if t146=true then ((Ql.f Yb 0 (wrap64 ((Qb.length:Int)-1))).bind fun X9=>(Qn.j0 k (Qb.length:Int) X9 Qb Qi Qd Yc Yb)) else (Qn.j0 k (Qb.length:Int) false Qb Qi Qd Yc Yb))=some r:=H;have A9:=Q1.mk A90;clear A90
     by_cases c10:t146=true
     ·
      subst c10
      have H1:((Ql.f Yb 0 (wrap64 ((Qb.length:Int)-1))).bind fun X9=>(Qn.j0 k (Qb.length:Int) X9 Qb Qi Qd Yc Yb))=some r:=by rw [if_pos rfl] at H;exact H
      clear H;have H:=H1;clear H1;replace H:=Option.bind_eq_some_iff.mp H;obtain ⟨X9,qbI,H⟩:=H;replace H:(Qn.j0 k (Qb.length:Int) X9 Qb Qi Qd Yc Yb)=some r:=H;have A11:=Q1.mk qbI;clear qbI;have H':=Q1.mk H;clear H
      go_wp2_with (first|((with_reducible refine Qp (f:=65) rfl ?_);refine Yd (some 11) rfl rfl Try.func65 (by kernel_rfl) rfl #[.int .i64 (Qb.length:Int),.int .i64 1,.int .i64 6] rfl (by (try simp only [List.map_toArray,List.map_cons,List.map_nil]);first|done|rfl|(simp only [List.length_drop,List.length_take];rfl)) ?_;(with_reducible refine (Ql.calls (Qb.length:Int) 1 6 true _ A5.out).mono ?_);rintro e w' ⟨rfl,⟨nd,rfl⟩⟩;refine ⟨_,rfl,?_⟩;have Xm:w3.cell? ⟨ZP,0,none⟩=some (.slice Y4 Qb.length QG):=(Q8 Yw.out 0).trans rfl;have Xn:w3.cell? ⟨ZP,1,none⟩=some (.slice Y2 Qi.length QI):=(Q8 Yw.out 1).trans rfl;have qa5:w3.cell? ⟨ZP,2,none⟩=some (.slice Y7 Qd.length QJ):=(Q8 Yw.out 2).trans rfl;have qdf:w3.cell? ⟨ZP,3,none⟩=some (.int .i64 Yc):=(Q8 Yw.out 3).trans rfl;have qdg:w3.cell? ⟨ZP,4,none⟩=some (.int .i64 Yb):=(Q8 Yw.out 4).trans rfl;have Xx:=Q9 Yw.out 0;have Xy:=Q9 Yw.out 1;have qbg:=Q9 Yw.out 2;have qdr:=Q9 Yw.out 3;have qds:=Q9 Yw.out 4)|(go_at_call 65;(with_reducible refine (Ql.calls Yc 0 100000000 true _ A9.out).mono ?_);rintro e w' ⟨rfl,⟨nd,rfl⟩⟩)|(go_at_call 65;(with_reducible refine (Ql.calls Yb 0 (wrap64 ((Qb.length:Int)-1)) X9 _ A11.out).mono ?_);rintro e w' ⟨rfl,⟨nd,rfl⟩⟩))
      go_meet
      case rel=>exact ⟨_,(X9),(by first|rfl|(simp;done)|(simp [*];done)),H',⟨by first|omega|exact Nat.le_refl _⟩,⟨by (with_reducible repeat (first|refine Q4 ?_ _|refine Q6 ?_|refine Q3 ?_ _));exact Yw.out⟩,⟨by repeat (first|(with_reducible first|exact HB.out|apply Q2|apply Q0|apply Q5|refine Q7 ?_ UV.out)|exact HB.out)⟩⟩
     replace c10:=Bool.eq_false_iff.mpr c10;subst c10
     have H1:(Qn.j0 k (Qb.length:Int) false Qb Qi Qd Yc Yb)=some r:=by rw [if_neg (show ¬ (false=true) by decide)] at H;exact H
     clear H;have H:=H1;clear H1;have H':=Q1.mk H;clear H
     go_wp2_with (first|((with_reducible refine Qp (f:=65) rfl ?_);refine Yd (some 11) rfl rfl Try.func65 (by kernel_rfl) rfl #[.int .i64 (Qb.length:Int),.int .i64 1,.int .i64 6] rfl (by (try simp only [List.map_toArray,List.map_cons,List.map_nil]);first|done|rfl|(simp only [List.length_drop,List.length_take];rfl)) ?_;(with_reducible refine (Ql.calls (Qb.length:Int) 1 6 true _ A5.out).mono ?_);rintro e w' ⟨rfl,⟨nd,rfl⟩⟩;refine ⟨_,rfl,?_⟩;have OK:w3.cell? ⟨ZP,0,none⟩=some (.slice Y4 Qb.length QG):=(Q8 Yw.out 0).trans rfl;have OL:w3.cell? ⟨ZP,1,none⟩=some (.slice Y2 Qi.length QI):=(Q8 Yw.out 1).trans rfl;have OM:w3.cell? ⟨ZP,2,none⟩=some (.slice Y7 Qd.length QJ):=(Q8 Yw.out 2).trans rfl;have qdh:w3.cell? ⟨ZP,3,none⟩=some (.int .i64 Yc):=(Q8 Yw.out 3).trans rfl;have qdi:w3.cell? ⟨ZP,4,none⟩=some (.int .i64 Yb):=(Q8 Yw.out 4).trans rfl;have OW:=Q9 Yw.out 0;have OX:=Q9 Yw.out 1;have OY:=Q9 Yw.out 2;have qdt:=Q9 Yw.out 3;have qdu:=Q9 Yw.out 4)|(go_at_call 65;(with_reducible refine (Ql.calls Yc 0 100000000 false _ A9.out).mono ?_);rintro e w' ⟨rfl,⟨nd,rfl⟩⟩))
     go_meet
     case rel=>exact ⟨_,(false),(by first|rfl|(simp;done)|(simp [*];done)),H',⟨by first|omega|exact Nat.le_refl _⟩,⟨by (with_reducible repeat (first|refine Q4 ?_ _|refine Q6 ?_|refine Q3 ?_ _));exact Yw.out⟩,⟨by repeat (first|(with_reducible first|exact HB.out|apply Q2|apply Q0|apply Q5|refine Q7 ?_ UV.out)|exact HB.out)⟩⟩
    rw [if_neg c8] at H;have c8b0:((Qd.length:Int)==(Qb.length:Int))=false:=beq_eq_false_iff_ne.mpr c8;have c8b1:((Qd.length:Int) != (Qb.length:Int))=true:=bne_iff_ne.mpr c8
    have c8b2:(Qd.length==Qb.length)=false:=by first|simpa using c8|(simp at c8 ⊢;omega)
    have H':=Q1.mk H;clear H
    go_wp2_with (first|((with_reducible refine Qp (f:=65) rfl ?_);refine Yd (some 11) rfl rfl Try.func65 (by kernel_rfl) rfl #[.int .i64 (Qb.length:Int),.int .i64 1,.int .i64 6] rfl (by (try simp only [List.map_toArray,List.map_cons,List.map_nil]);first|done|rfl|(simp only [List.length_drop,List.length_take];rfl)) ?_;(with_reducible refine (Ql.calls (Qb.length:Int) 1 6 true _ A5.out).mono ?_);rintro e w' ⟨rfl,⟨nd,rfl⟩⟩;refine ⟨_,rfl,?_⟩;have ON:w3.cell? ⟨ZP,0,none⟩=some (.slice Y4 Qb.length QG):=(Q8 Yw.out 0).trans rfl;have OO:w3.cell? ⟨ZP,1,none⟩=some (.slice Y2 Qi.length QI):=(Q8 Yw.out 1).trans rfl;have OP:w3.cell? ⟨ZP,2,none⟩=some (.slice Y7 Qd.length QJ):=(Q8 Yw.out 2).trans rfl;have qdj:w3.cell? ⟨ZP,3,none⟩=some (.int .i64 Yc):=(Q8 Yw.out 3).trans rfl;have qdk:w3.cell? ⟨ZP,4,none⟩=some (.int .i64 Yb):=(Q8 Yw.out 4).trans rfl;have OZ:=Q9 Yw.out 0;have U0:=Q9 Yw.out 1;have U1:=Q9 Yw.out 2;have qdv:=Q9 Yw.out 3;have qdw:=Q9 Yw.out 4))
    go_meet
    case rel=>exact ⟨_,(false),(by first|rfl|(simp;done)|(simp [*];done)),H',⟨by first|omega|exact Nat.le_refl _⟩,⟨by (with_reducible repeat (first|refine Q4 ?_ _|refine Q6 ?_|refine Q3 ?_ _));exact Yw.out⟩,⟨by repeat (first|(with_reducible first|exact HB.out|apply Q2|apply Q0|apply Q5|refine Q7 ?_ UV.out)|exact HB.out)⟩⟩
   rw [if_neg c7] at H
   have c7b0:((Qi.length:Int)==(Qb.length:Int))=false:=beq_eq_false_iff_ne.mpr c7
   have c7b1:((Qi.length:Int) != (Qb.length:Int))=true:=bne_iff_ne.mpr c7
   have c7b2:(Qi.length==Qb.length)=false:=by first|simpa using c7|(simp at c7 ⊢;omega)
   (first|rw [c7b0]|(simp only [Yn,YA];rw [c7b0])|skip)
   have H':=Q1.mk H
   clear H
   go_wp2_with (first|((with_reducible refine Qp (f:=65) rfl ?_);refine Yd (some 11) rfl rfl Try.func65 (by kernel_rfl) rfl #[.int .i64 (Qb.length:Int),.int .i64 1,.int .i64 6] rfl (by (try simp only [List.map_toArray,List.map_cons,List.map_nil]);first|done|rfl|(simp only [List.length_drop,List.length_take];rfl)) ?_;(with_reducible refine (Ql.calls (Qb.length:Int) 1 6 true _ A5.out).mono ?_);rintro e w' ⟨rfl,⟨nd,rfl⟩⟩;refine ⟨_,rfl,?_⟩;have Oa:w3.cell? ⟨ZP,0,none⟩=some (.slice Y4 Qb.length QG):=(Q8 Yw.out 0).trans rfl;have Ob:w3.cell? ⟨ZP,1,none⟩=some (.slice Y2 Qi.length QI):=(Q8 Yw.out 1).trans rfl;have OQ:w3.cell? ⟨ZP,2,none⟩=some (.slice Y7 Qd.length QJ):=(Q8 Yw.out 2).trans rfl;have OR:w3.cell? ⟨ZP,3,none⟩=some (.int .i64 Yc):=(Q8 Yw.out 3).trans rfl;have OS:w3.cell? ⟨ZP,4,none⟩=some (.int .i64 Yb):=(Q8 Yw.out 4).trans rfl;have Of:=Q9 Yw.out 0;have Og:=Q9 Yw.out 1;have U2:=Q9 Yw.out 2;have U3:=Q9 Yw.out 3;have U4:=Q9 Yw.out 4))
   go_meet
   case rel=>exact ⟨_,(false),(by first|rfl|(simp;done)|(simp [*];done)),H',⟨by first|omega|exact Nat.le_refl _⟩,⟨by (with_reducible repeat (first|refine Q4 ?_ _|refine Q6 ?_|refine Q3 ?_ _));exact Yw.out⟩,⟨by repeat (first|(with_reducible first|exact HB.out|apply Q2|apply Q0|apply Q5|refine Q7 ?_ UV.out)|exact HB.out)⟩⟩
  replace c6:=Bool.eq_false_iff.mpr c6
  subst c6
  have H1:(Qn.j0 k (Qb.length:Int) false Qb Qi Qd Yc Yb)=some r:=by rw [if_neg (show ¬ (false=true) by decide)] at H;exact H
  clear H
  have H:=H1
  clear H1
  have H':=Q1.mk H
  clear H
  go_wp2_with (first|((with_reducible refine Qp (f:=65) rfl ?_);refine Yd (some 11) rfl rfl Try.func65 (by kernel_rfl) rfl #[.int .i64 (Qb.length:Int),.int .i64 1,.int .i64 6] rfl (by (try simp only [List.map_toArray,List.map_cons,List.map_nil]);first|done|rfl|(simp only [List.length_drop,List.length_take];rfl)) ?_;(with_reducible refine (Ql.calls (Qb.length:Int) 1 6 false _ A5.out).mono ?_);rintro e w' ⟨rfl,⟨nd,rfl⟩⟩;refine ⟨_,rfl,?_⟩))
  go_meet
  case rel=>exact ⟨_,(false),(by first|rfl|(simp;done)|(simp [*];done)),H',⟨by first|omega|exact Nat.le_refl _⟩,⟨by (with_reducible repeat (first|refine Q4 ?_ _|refine Q6 ?_|refine Q3 ?_ _));exact Yw.out⟩,⟨by repeat (first|(with_reducible first|exact HB.out|apply Q2|apply Q0|apply Q5|refine Q7 ?_ UV.out)|exact HB.out)⟩⟩
 case rest =>
  clear HC2
  try clear c1
  try clear p2
  try clear c6
  try clear p6
  try clear c7
  try clear c7b0
  try clear c7b1
  try clear c7b2
  try clear c8
  try clear c8b0
  try clear c8b1
  try clear c8b2
  try clear c10
  try clear Xm
  try clear Xn
  try clear qa5
  try clear qdf
  try clear qdg
  try clear OK
  try clear OL
  try clear OM
  try clear qdh
  try clear qdi
  try clear ON
  try clear OO
  try clear OP
  try clear qdj
  try clear qdk
  try clear Oa
  try clear Ob
  try clear OQ
  try clear OR
  try clear OS
  try clear GF
  try clear GG
  try clear Kf
  try clear qf4
  try clear qf5
  try clear Xx
  try clear Xy
  try clear qbg
  try clear qdr
  try clear qds
  try clear OW
  try clear OX
  try clear OY
  try clear qdt
  try clear qdu
  try clear OZ
  try clear U0
  try clear U1
  try clear qdv
  try clear qdw
  try clear Of
  try clear Og
  try clear U2
  try clear U3
  try clear U4
  try clear GH
  try clear GI
  try clear Kj
  try clear qf8
  try clear qf9
  obtain ⟨kq,qan,rfl,HA,HJ1,Yw,HB⟩:=hcut
  cases kq with
  | zero=>exact absurd HA.out (by simp [Qn.j0])
  | succ kj1 =>
   have H:=HA.out
   clear HA
   simp only [Qn.j0] at H
   have H':=Q1.mk H
   clear H
   go_wp2
   go_loopg [4,5] kj1 (fun kq v4 v5 w' => ∃ (OA:Bool) (Yk:Int),v4 = .bool OA∧v5 = .int .i64 Yk∧Q1 (Qn.l0 kq (Qb.length:Int) OA Yk Qb Qi Qd Yc Yb=some r)∧Q1 (kq≤kj1)∧Q1 (w'.heap[ZP]? = some (.cells #[(.slice Y4 Qb.length QG),(.slice Y2 Qi.length QI),(.slice Y7 Qd.length QJ),.int .i64 Yc,.int .i64 Yb] 111 (0,0)))∧Q1 (Below w.heap.size w w'))
   case atStart=>exact ⟨(qan),(0),(by first|rfl|(simp;done)|(simp [*];done)),(by first|rfl|(simp;done)|(simp [*];done)),H',⟨Nat.le_refl _⟩,⟨by (with_reducible repeat (first|refine Q4 ?_ _|refine Q6 ?_|refine Q3 ?_ _));exact Yw.out⟩,⟨by repeat (first|(with_reducible first|exact HB.out|apply Q2|apply Q0|apply Q5|refine Q7 ?_ UV.out)|exact HB.out)⟩⟩
   case round =>
    clear H';(try clear c1);(try clear p2);(try clear c6);(try clear p6);(try clear c7);(try clear c7b0);(try clear c7b1);(try clear c7b2);(try clear c8);(try clear c8b0);(try clear c8b1);(try clear c8b2);(try clear c10);(try clear Xm);(try clear Xn);(try clear qa5);(try clear qdf);(try clear qdg);(try clear OK);(try clear OL);(try clear OM);(try clear qdh);(try clear qdi);(try clear ON);(try clear OO);(try clear OP);(try clear qdj);(try clear qdk);(try clear Oa);(try clear Ob);(try clear OQ);(try clear OR);(try clear OS);(try clear GF);(try clear GG);(try clear Kf);(try clear qf4);(try clear qf5);(try clear Xx);(try clear Xy);(try clear qbg);(try clear qdr);(try clear qds);(try clear OW);(try clear OX);(try clear OY);(try clear qdt);(try clear qdu);(try clear OZ);(try clear U0);(try clear U1);(try clear qdv);(try clear qdw);(try clear Of);(try clear Og);(try clear U2);(try clear U3);(try clear U4);(try clear GH);(try clear GI);(try clear Kj);(try clear qf8);(try clear qf9);(try clear p2);(try clear p6);obtain ⟨OA,Yk,rfl,rfl,HA,HK2,Yw,HB⟩:=hrel
    cases gk with
    | zero=>exact absurd HA.out (by simp [Qn.l0])
    | succ k2 =>
     have H:=HA.out;clear HA;simp only [Qn.l0] at H;have qob:=Q1.mk H;clear H
     go_upto_region 4 with (fail)
     go_cut [47] (fun v47 wc => ∃ (kq:Nat) (qef:Bool),v47 = .bool qef∧Q1 (Qn.j2 kq (Qb.length:Int) OA Yk qef Qb Qi Qd Yc Yb=some r)∧Q1 (kq≤k2)∧Q1 (wc.heap[ZP]? = some (.cells #[(.slice Y4 Qb.length QG),(.slice Y2 Qi.length QI),(.slice Y7 Qd.length QJ),.int .i64 Yc,.int .i64 Yb] 111 (0,0)))∧Q1 (Below w.heap.size w wc))
     case first =>
      have H:=qob.out;clear qob
      by_cases c17:OA=true
      ·
       subst c17
       have H1:(Qn.j2 k2 (Qb.length:Int) true Yk (decide (Yk<(Qb.length:Int))) Qb Qi Qd Yc Yb)=some r:=by rw [if_pos rfl] at H;exact H
       clear H;have H:=H1;clear H1;have H':=Q1.mk H;clear H
       go_wp2
       go_meet
       case rel=>exact ⟨_,(decide (Yk<(Qb.length:Int))),(by first|rfl|(simp;done)|(simp [*];done)),H',⟨by have:=HJ1.out;have:=HK2.out;first|omega|exact Nat.le_refl _⟩,⟨by (with_reducible repeat (first|refine Q4 ?_ _|refine Q6 ?_|refine Q3 ?_ _));exact Yw.out⟩,⟨by repeat (first|(with_reducible first|exact HB.out|apply Q2|apply Q0|apply Q5|refine Q7 ?_ UV.out)|exact HB.out)⟩⟩
      replace c17:=Bool.eq_false_iff.mpr c17;subst c17
      have H1:(Qn.j2 k2 (Qb.length:Int) false Yk false Qb Qi Qd Yc Yb)=some r:=by rw [if_neg (show ¬ (false=true) by decide)] at H;exact H
      clear H;have H:=H1;clear H1;have H':=Q1.mk H;clear H
      go_wp2
      go_meet
      case rel=>exact ⟨_,(false),(by first|rfl|(simp;done)|(simp [*];done)),H',⟨by have:=HJ1.out;have:=HK2.out;first|omega|exact Nat.le_refl _⟩,⟨by (with_reducible repeat (first|refine Q4 ?_ _|refine Q6 ?_|refine Q3 ?_ _));exact Yw.out⟩,⟨by repeat (first|(with_reducible first|exact HB.out|apply Q2|apply Q0|apply Q5|refine Q7 ?_ UV.out)|exact HB.out)⟩⟩
     case rest =>
      clear qob;(try clear c1);(try clear p2);(try clear c6);(try clear p6);(try clear c7);(try clear c7b0);(try clear c7b1);(try clear c7b2);(try clear c8);(try clear c8b0);(try clear c8b1);(try clear c8b2);(try clear c10);(try clear c17);(try clear Xm);(try clear Xn);(try clear qa5);(try clear qdf);(try clear qdg);(try clear OK);(try clear OL);(try clear OM);(try clear qdh);(try clear qdi);(try clear ON);(try clear OO);(try clear OP);(try clear qdj);(try clear qdk);(try clear Oa);(try clear Ob);(try clear OQ);(try clear OR);(try clear OS);(try clear GF);(try clear GG);(try clear Kf);(try clear qf4);(try clear qf5);(try clear Xx);(try clear Xy);(try clear qbg);(try clear qdr);(try clear qds);(try clear OW);(try clear OX);(try clear OY);(try clear qdt);(try clear qdu);(try clear OZ);(try clear U0);(try clear U1);(try clear qdv);(try clear qdw);(try clear Of);(try clear Og);(try clear U2);(try clear U3);(try clear U4);(try clear GH);(try clear GI);(try clear Kj);(try clear qf8);(try clear qf9);(try clear p2);(try clear p6);obtain ⟨kq,qef,rfl,HA,qih,Yw,HB⟩:=hcut
      cases kq with
      | zero=>exact absurd HA.out (by simp [Qn.j2])
      | succ Wc =>
       have H:=HA.out;clear HA;simp only [Qn.j2] at H
       by_cases c18:qef=true
       ·
        subst c18
        have H1:(if 0≤Yk then (if Yk<(Qb.length:Int) then ((Ql.f (rd Qb Yk) 0 100000).bind fun qiP=>(if qiP=true then (if Yk<(Qi.length:Int) then ((Ql.f (rd Qi Yk) 0 1000).bind fun qcv=>(if qcv=true then (if Yk<(Qd.length:Int) then ((Ql.f (rd Qd Yk) 0 100).bind fun Xa=>(Qn.l0 Wc (Qb.length:Int) Xa (wrap64 (Yk+1)) Qb Qi Qd Yc Yb)) else (none)) else (Qn.l0 Wc (Qb.length:Int) false (wrap64 (Yk+1)) Qb Qi Qd Yc Yb))) else (none)) else (Qn.l0 Wc (Qb.length:Int) false (wrap64 (Yk+1)) Qb Qi Qd Yc Yb))) else (none)) else (none))=some r:=by rw [if_pos rfl] at H;exact H
        clear H;have H:=H1;clear H1
        by_cases c19:0≤Yk
        ·
         rw [if_pos c19] at H;have c19b0:decide (0≤Yk)=true:=decide_eq_true c19;clear c19
         by_cases c20:Yk<(Qb.length:Int)
         ·
          rw [if_pos c20] at H;have c20b0:decide (Yk<(Qb.length:Int))=true:=decide_eq_true c20;clear c20;replace H:=Option.bind_eq_some_iff.mp H;obtain ⟨qiP,qpr,H⟩:=H;replace H:(if qiP=true then (if Yk<(Qi.length:Int) then ((Ql.f (rd Qi Yk) 0 1000).bind fun qcv=>(if qcv=true then (if Yk<(Qd.length:Int) then ((Ql.f (rd Qd Yk) 0 100).bind fun Xa=>(Qn.l0 Wc (Qb.length:Int) Xa (wrap64 (Yk+1)) Qb Qi Qd Yc Yb)) else (none)) else (Qn.l0 Wc (Qb.length:Int) false (wrap64 (Yk+1)) Qb Qi Qd Yc Yb))) else (none)) else (Qn.l0 Wc (Qb.length:Int) false (wrap64 (Yk+1)) Qb Qi Qd Yc Yb))=some r:=H;have A21:=Q1.mk qpr;clear qpr
          by_cases c22:qiP=true
          ·
           subst c22
           have H1:(if Yk<(Qi.length:Int) then ((Ql.f (rd Qi Yk) 0 1000).bind fun qcv=>(if qcv=true then (if Yk<(Qd.length:Int) then ((Ql.f (rd Qd Yk) 0 100).bind fun Xa=>(Qn.l0 Wc (Qb.length:Int) Xa (wrap64 (Yk+1)) Qb Qi Qd Yc Yb)) else (none)) else (Qn.l0 Wc (Qb.length:Int) false (wrap64 (Yk+1)) Qb Qi Qd Yc Yb))) else (none))=some r:=by rw [if_pos rfl] at H;exact H
           clear H;have H:=H1;clear H1
           by_cases c23:Yk<(Qi.length:Int)
           ·
            rw [if_pos c23] at H;have c23b0:decide (Yk<(Qi.length:Int))=true:=decide_eq_true c23;clear c23;replace H:=Option.bind_eq_some_iff.mp H;obtain ⟨qcv,qem,H⟩:=H;replace H:(if qcv=true then (if Yk<(Qd.length:Int) then ((Ql.f (rd Qd Yk) 0 100).bind fun Xa=>(Qn.l0 Wc (Qb.length:Int) Xa (wrap64 (Yk+1)) Qb Qi Qd Yc Yb)) else (none)) else (Qn.l0 Wc (Qb.length:Int) false (wrap64 (Yk+1)) Qb Qi Qd Yc Yb))=some r:=H;have A24:=Q1.mk qem;clear qem
            by_cases c25:qcv=true
            ·
             subst c25
             have H1:(if Yk<(Qd.length:Int) then ((Ql.f (rd Qd Yk) 0 100).bind fun Xa=>(Qn.l0 Wc (Qb.length:Int) Xa (wrap64 (Yk+1)) Qb Qi Qd Yc Yb)) else (none))=some r:=by rw [if_pos rfl] at H;exact H
             clear H;have H:=H1;clear H1
             by_cases c26:Yk<(Qd.length:Int)
             ·
              rw [if_pos c26] at H;have c26b0:decide (Yk<(Qd.length:Int))=true:=decide_eq_true c26;clear c26;replace H:=Option.bind_eq_some_iff.mp H;obtain ⟨Xa,qpt,H⟩:=H;replace H:(Qn.l0 Wc (Qb.length:Int) Xa (wrap64 (Yk+1)) Qb Qi Qd Yc Yb)=some r:=H;have A27:=Q1.mk qpt;clear qpt;have H':=Q1.mk H;clear H;have qdl:wc.cell? ⟨ZP,0,none⟩=some (.slice Y4 Qb.length QG):=(Q8 Yw.out 0).trans rfl;have qdm:wc.cell? ⟨ZP,1,none⟩=some (.slice Y2 Qi.length QI):=(Q8 Yw.out 1).trans rfl;have qsB:wc.cell? ⟨ZP,2,none⟩=some (.slice Y7 Qd.length QJ):=(Q8 Yw.out 2).trans rfl;have qsC:wc.cell? ⟨ZP,3,none⟩=some (.int .i64 Yc):=(Q8 Yw.out 3).trans rfl;have qsD:wc.cell? ⟨ZP,4,none⟩=some (.int .i64 Yb):=(Q8 Yw.out 4).trans rfl;have qdx:=Q9 Yw.out 0;have qdy:=Q9 Yw.out 1;have quD:=Q9 Yw.out 2;have quE:=Q9 Yw.out 3;have quF:=Q9 Yw.out 4;have qb5:0≤(Yk:Int):=of_decide_eq_true (by first|(with_reducible assumption)|assumption);have qb6:Yk<(Qb.length:Int):=of_decide_eq_true (by first|(with_reducible assumption)|assumption);obtain ⟨qnK,qjB,Kz⟩:=Kd.at_int Jr.out Yk qb5 qb6;cases qjB;replace Kz:=(HB.out.cell (World.block_lt_of_cell? w _ Kz)).trans Kz;replace qb5:=eq_true qb5;replace qb6:=eq_true qb6
              go_wp2_with (first|((with_reducible refine Qp (f:=65) rfl ?_);refine Yd (some 56) rfl rfl Try.func65 (by kernel_rfl) rfl #[.int .i64 (rd Qb Yk),.int .i64 0,.int .i64 100000] rfl (by (try simp only [List.map_toArray,List.map_cons,List.map_nil]);first|done|rfl|(simp only [List.length_drop,List.length_take];rfl)) ?_;(with_reducible refine (Ql.calls (rd Qb Yk) 0 100000 true _ A21.out).mono ?_);rintro e w' ⟨rfl,⟨nd,rfl⟩⟩;refine ⟨_,rfl,?_⟩;have qgs:0≤(Yk:Int):=of_decide_eq_true (by first|(with_reducible assumption)|assumption);have qgG:Yk<(Qi.length:Int):=of_decide_eq_true (by first|(with_reducible assumption)|assumption);obtain ⟨qp4,qoq,UL⟩:=Kd.at_int Jz.out Yk qgs qgG;cases qoq;replace UL:=(HB.out.cell (World.block_lt_of_cell? w _ UL)).trans UL;replace qgs:=eq_true qgs;replace qgG:=eq_true qgG)|(go_at_call 65;(with_reducible refine (Ql.calls (rd Qi Yk) 0 1000 true _ A24.out).mono ?_);rintro e w' ⟨rfl,⟨nd,rfl⟩⟩;have qoZ:0≤(Yk:Int):=of_decide_eq_true (by first|(with_reducible assumption)|assumption);have qo9:Yk<(Qd.length:Int):=of_decide_eq_true (by first|(with_reducible assumption)|assumption);obtain ⟨qAq,e152,qdE⟩:=Kd.at_int JA.out Yk qoZ qo9;cases e152;replace qdE:=(HB.out.cell (World.block_lt_of_cell? w _ qdE)).trans qdE;replace qoZ:=eq_true qoZ;replace qo9:=eq_true qo9)|(go_at_call 65;(with_reducible refine (Ql.calls (rd Qd Yk) 0 100 Xa _ A27.out).mono ?_);rintro e w' ⟨rfl,⟨nd,rfl⟩⟩))
              go_roundg Wc
              case measure=>have:=HJ1.out;have:=HK2.out;have:=qih.out;omega
              case rel=>exact ⟨(Xa),(wrap64 (Yk+1)),(by first|rfl|(simp;done)|(simp [*];done)),(by first|rfl|(simp;done)|(simp [*];done)),H',⟨by have:=HJ1.out;have:=HK2.out;have:=qih.out;omega⟩,⟨by (with_reducible repeat (first|refine Q4 ?_ _|refine Q6 ?_|refine Q3 ?_ _));exact Yw.out⟩,⟨by repeat (first|(with_reducible first|exact HB.out|apply Q2|apply Q0|apply Q5|refine Q7 ?_ UV.out)|exact HB.out)⟩⟩
             rw [if_neg c26] at H
             exact absurd H (by simp)
            replace c25:=Bool.eq_false_iff.mpr c25;subst c25
            have H1:(Qn.l0 Wc (Qb.length:Int) false (wrap64 (Yk+1)) Qb Qi Qd Yc Yb)=some r:=by rw [if_neg (show ¬ (false=true) by decide)] at H;exact H
            clear H;have H:=H1;clear H1;have H':=Q1.mk H;clear H;have qlh:wc.cell? ⟨ZP,0,none⟩=some (.slice Y4 Qb.length QG):=(Q8 Yw.out 0).trans rfl;have qli:wc.cell? ⟨ZP,1,none⟩=some (.slice Y2 Qi.length QI):=(Q8 Yw.out 1).trans rfl;have qlj:wc.cell? ⟨ZP,2,none⟩=some (.slice Y7 Qd.length QJ):=(Q8 Yw.out 2).trans rfl;have qsE:wc.cell? ⟨ZP,3,none⟩=some (.int .i64 Yc):=(Q8 Yw.out 3).trans rfl;have qsF:wc.cell? ⟨ZP,4,none⟩=some (.int .i64 Yb):=(Q8 Yw.out 4).trans rfl;have qlT:=Q9 Yw.out 0;have qlU:=Q9 Yw.out 1;have qlV:=Q9 Yw.out 2;have quG:=Q9 Yw.out 3;have quH:=Q9 Yw.out 4;have qb5:0≤(Yk:Int):=of_decide_eq_true (by first|(with_reducible assumption)|assumption);have qb6:Yk<(Qb.length:Int):=of_decide_eq_true (by first|(with_reducible assumption)|assumption);obtain ⟨qnK,qjB,Kz⟩:=Kd.at_int Jr.out Yk qb5 qb6;cases qjB;replace Kz:=(HB.out.cell (World.block_lt_of_cell? w _ Kz)).trans Kz;replace qb5:=eq_true qb5;replace qb6:=eq_true qb6
            go_wp2_with (first|((with_reducible refine Qp (f:=65) rfl ?_);refine Yd (some 56) rfl rfl Try.func65 (by kernel_rfl) rfl #[.int .i64 (rd Qb Yk),.int .i64 0,.int .i64 100000] rfl (by (try simp only [List.map_toArray,List.map_cons,List.map_nil]);first|done|rfl|(simp only [List.length_drop,List.length_take];rfl)) ?_;(with_reducible refine (Ql.calls (rd Qb Yk) 0 100000 true _ A21.out).mono ?_);rintro e w' ⟨rfl,⟨nd,rfl⟩⟩;refine ⟨_,rfl,?_⟩;have qgs:0≤(Yk:Int):=of_decide_eq_true (by first|(with_reducible assumption)|assumption);have qgG:Yk<(Qi.length:Int):=of_decide_eq_true (by first|(with_reducible assumption)|assumption);obtain ⟨qp4,qoq,UL⟩:=Kd.at_int Jz.out Yk qgs qgG;cases qoq;replace UL:=(HB.out.cell (World.block_lt_of_cell? w _ UL)).trans UL;replace qgs:=eq_true qgs;replace qgG:=eq_true qgG)|(go_at_call 65;(with_reducible refine (Ql.calls (rd Qi Yk) 0 1000 false _ A24.out).mono ?_);rintro e w' ⟨rfl,⟨nd,rfl⟩⟩))
            go_roundg Wc
            case measure=>have:=HJ1.out;have:=HK2.out;have:=qih.out;omega
            case rel=>exact ⟨(false),(wrap64 (Yk+1)),(by first|rfl|(simp;done)|(simp [*];done)),(by first|rfl|(simp;done)|(simp [*];done)),H',⟨by have:=HJ1.out;have:=HK2.out;have:=qih.out;omega⟩,⟨by (with_reducible repeat (first|refine Q4 ?_ _|refine Q6 ?_|refine Q3 ?_ _));exact Yw.out⟩,⟨by repeat (first|(with_reducible first|exact HB.out|apply Q2|apply Q0|apply Q5|refine Q7 ?_ UV.out)|exact HB.out)⟩⟩
           rw [if_neg c23] at H
           exact absurd H (by simp)
          replace c22:=Bool.eq_false_iff.mpr c22;subst c22
          have H1:(Qn.l0 Wc (Qb.length:Int) false (wrap64 (Yk+1)) Qb Qi Qd Yc Yb)=some r:=by rw [if_neg (show ¬ (false=true) by decide)] at H;exact H
          clear H;have H:=H1;clear H1;have H':=Q1.mk H;clear H;have qsG:wc.cell? ⟨ZP,0,none⟩=some (.slice Y4 Qb.length QG):=(Q8 Yw.out 0).trans rfl;have qsH:wc.cell? ⟨ZP,1,none⟩=some (.slice Y2 Qi.length QI):=(Q8 Yw.out 1).trans rfl;have qsI:wc.cell? ⟨ZP,2,none⟩=some (.slice Y7 Qd.length QJ):=(Q8 Yw.out 2).trans rfl;have qsJ:wc.cell? ⟨ZP,3,none⟩=some (.int .i64 Yc):=(Q8 Yw.out 3).trans rfl;have qsK:wc.cell? ⟨ZP,4,none⟩=some (.int .i64 Yb):=(Q8 Yw.out 4).trans rfl;have quI:=Q9 Yw.out 0;have quJ:=Q9 Yw.out 1;have quK:=Q9 Yw.out 2;have quL:=Q9 Yw.out 3;have quM:=Q9 Yw.out 4;have qb5:0≤(Yk:Int):=of_decide_eq_true (by first|(with_reducible assumption)|assumption);have qb6:Yk<(Qb.length:Int):=of_decide_eq_true (by first|(with_reducible assumption)|assumption);obtain ⟨qnK,qjB,Kz⟩:=Kd.at_int Jr.out Yk qb5 qb6;cases qjB;replace Kz:=(HB.out.cell (World.block_lt_of_cell? w _ Kz)).trans Kz;replace qb5:=eq_true qb5;replace qb6:=eq_true qb6
          go_wp2_with (first|((with_reducible refine Qp (f:=65) rfl ?_);refine Yd (some 56) rfl rfl Try.func65 (by kernel_rfl) rfl #[.int .i64 (rd Qb Yk),.int .i64 0,.int .i64 100000] rfl (by (try simp only [List.map_toArray,List.map_cons,List.map_nil]);first|done|rfl|(simp only [List.length_drop,List.length_take];rfl)) ?_;(with_reducible refine (Ql.calls (rd Qb Yk) 0 100000 false _ A21.out).mono ?_);rintro e w' ⟨rfl,⟨nd,rfl⟩⟩;refine ⟨_,rfl,?_⟩))
          go_roundg Wc
          case measure=>have:=HJ1.out;have:=HK2.out;have:=qih.out;omega
          case rel=>exact ⟨(false),(wrap64 (Yk+1)),(by first|rfl|(simp;done)|(simp [*];done)),(by first|rfl|(simp;done)|(simp [*];done)),H',⟨by have:=HJ1.out;have:=HK2.out;have:=qih.out;omega⟩,⟨by (with_reducible repeat (first|refine Q4 ?_ _|refine Q6 ?_|refine Q3 ?_ _));exact Yw.out⟩,⟨by repeat (first|(with_reducible first|exact HB.out|apply Q2|apply Q0|apply Q5|refine Q7 ?_ UV.out)|exact HB.out)⟩⟩
         rw [if_neg c20] at H
         exact absurd H (by simp)
        rw [if_neg c19] at H
        exact absurd H (by simp)
       replace c18:=Bool.eq_false_iff.mpr c18;subst c18
       have H1:(some OA)=some r:=by rw [if_neg (show ¬ (false=true) by decide)] at H;exact H
       clear H;have H:=H1;clear H1;obtain rfl:=Option.some.inj H
       go_wp2
       go_ret
       exact ⟨by first|rfl|(simp [Qs,Qt]<;>rfl)|(simp [*,Qs,Qt]<;>rfl),by repeat (first|(with_reducible first|exact HB.out|apply Q2|apply Q0|apply Q5|refine Q7 ?_ UV.out)|exact HB.out)⟩
end
section
set_option maxRecDepth 100000 in
theorem Z4.calls6 (A0:Option Addr) (c0:Nat) (l0:List Int) (A1:Option Addr) (c1 n1:Nat) (A2:Option Addr) (c2 n2:Nat) (a3 a4:Int) (w:World) (hr0:Kd.C (Kd.int .i64) w A0 l0.length l0) (hl:l0.length≤6) :
  Calls Try.prog 78 #[.agg #[.slice A0 l0.length c0,.slice A1 n1 c1,.slice A2 n2 c2,.int .i64 a3,.int .i64 a4]] w fun e w'=>e = .returned (.agg (ar6 l0).toArray)∧Below w.heap.size w w':=by
 have hu:=Try.underlying111
 have hu2:=Try.underlying39
 have hu3:=Try.underlying115
 have HL:=Q1.mk hl
 have HR0:=Q1.mk hr0
 clear hr0 hl
 go_enter Try.func78,Try.ntmps78
 go_wp2
 go_region_law (refine step_copy_splice rfl (.tmp 4) (.tmp 7) 37 37 rfl 3 Try.underlying37 (by kernel_rfl) (some ⟨w.heap.size+1+1,0,none⟩) A0 6 6 l0.length c0 rfl rfl (w.heap.size+1+1) 0 (ar6 []) 115 ?c1 (l0.map (Value.int .i64)) (qmB HL.out) ?c2 ?c3 (qmC l0) (w.heap.size+2) _ (Below.refl _ _) (Nat.le_refl _) ?_;(case c1=>exact Q6 (by have h:=OH (((w.alloc (.cells #[.slice A0 l0.length c0,.slice A1 n1 c1,.slice A2 n2 c2,.int .i64 a3,.int .i64 a4] 111)).alloc (.cells (ar6 []).toArray 115))) (.cells (ar6 []).toArray 115);simp only [World.size_alloc] at h;exact h));(case c2=>exact fun h0=>⟨rfl,Xc HR0.out (by repeat (first|exact Below.refl _ _|apply Ym|apply Q2)) h0⟩);(case c3=>simpa [ar6] using HL.out);intro w4 hg4 hb4)
 have HG:=Q1.mk (show Is6 w4 (w.heap.size+1+1) l0 by have h:=hg4;unfold Hid at h;rw [qgS l0 HL.out] at h;exact h)
 have HZ:Is6 w4 (w.heap.size+1) []:=(hb4.block (w.heap.size+1) (by omega)).trans (Q6 (Q3 (by have h:=OH (w.alloc (.cells #[.slice A0 l0.length c0,.slice A1 n1 c1,.slice A2 n2 c2,.int .i64 a3,.int .i64 a4] 111)) (.cells (ar6 []).toArray 115);simp only [World.size_alloc] at h;exact h) _))
 have HZ:=Q1.mk HZ
 have HB:=Q1.mk (show Below w.heap.size w w4 from (Ym (Q2 (Q2 (Q2 (Below.refl w.heap.size w) _) _) _)).trans (hb4.mono (by omega)))
 clear hg4 hb4
 obtain ⟨g0,g1,g2,g3,g4,g5⟩:=HG.out.cells
 obtain ⟨z0,z1,z2,z3,z4,z5⟩:=HZ.out.cells
 obtain ⟨f0,f1,f2,f3,f4,f5⟩:=HZ.out.frozen
 go_wp2
 refine bodyPost_ret (results_cell_row rfl _ _ (w.heap.size+1) 115 (ar6 l0).toArray (0,0) _ rfl (HZ.out.put6 l0) Try.underlying115 rfl (by kernel_rfl)) rfl ?_
 refine ⟨rfl,?_⟩
 have h1:w.heap.size≤w.heap.size+1:=by omega
 repeat (with_reducible first|exact HB.out|refine Q7 ?_ h1)
def Z4.f (Qb Qi Qd:List Int) (Yc Yb:Int):Option (Int × Int × Int × Int × Int × Int) :=
 if Qb.length≤6 then some (rd Qb 0,rd Qb 1,rd Qb 2,rd Qb 3,rd Qb 4,rd Qb 5) else none
theorem Z4.calls (Y4:Option Addr) (QG:Nat) (Qb:List Int) (Y2:Option Addr) (QI:Nat) (Qi:List Int) (Y7:Option Addr) (QJ:Nat) (Qd:List Int) (Yc Yb r1 r2 r3 r4 r5 r6:Int) (w:World)
  (Gl:Kd.C (Kd.int .i64) w Y4 Qb.length Qb) (GA:Qb.length≤QG) (Gm:Kd.C (Kd.int .i64) w Y2 Qi.length Qi) (GC:Qi.length≤QI) (Gn:Kd.C (Kd.int .i64) w Y7 Qd.length Qd) (GD:Qd.length≤QJ)
  (h:Z4.f Qb Qi Qd Yc Yb=some (r1,r2,r3,r4,r5,r6)) :
  Calls Try.prog 78 #[.agg #[.slice Y4 Qb.length QG,.slice Y2 Qi.length QI,.slice Y7 Qd.length QJ,.int .i64 Yc,.int .i64 Yb]] w fun e w' =>
   e = .returned (.agg #[.int .i64 r1,.int .i64 r2,.int .i64 r3,.int .i64 r4,.int .i64 r5,.int .i64 r6])∧Below w.heap.size w w':=by
 unfold Z4.f at h
 by_cases hv:Qb.length≤6
 ·
  rw [if_pos hv] at h
  injection h with h
  simp only [Prod.mk.injEq] at h
  obtain ⟨rfl,rfl,rfl,rfl,rfl,rfl⟩:=h
  exact Z4.calls6 Y4 QG Qb Y2 QI Qi.length Y7 QJ Qd.length Yc Yb w Gl hv
 ·
  rw [if_neg hv] at h
  exact absurd h (by simp)
end
section
attribute [local go_sem] Yr Yt YM YN Yi Yj Ys Yu
def OB (mesh:Int):Nat→List Int→Int→List Int × Int
 | 0,n,t=>(n,t)
 | j+1,n,t=>if mesh≤(j:Int) then OB mesh j (n.set j (wrap64 (rd n j-mn (rd n j) t))) (wrap64 (t-mn (rd n j) t)) else (n,t)
def KC (n spawn:List Int) (k:Nat):List Int:=(List.range k).map fun i:Nat=>wrap64 (rd n i*rd spawn i)
def UC (last:Int) (n keep:List Int):Nat→List Int
 | 0=>[0,0,0,0,0,0]
 | k+1=>(UC last n keep k).set (mn ((k:Int)+1) last).toNat (wrap64 (rd (UC last n keep k) (mn ((k:Int)+1) last)+wrap64 (Int.tdiv (wrap64 (rd n k*rd keep k)) 1000)))
def sumW (l:List Int):Int:=l.foldl (fun s x=>wrap64 (s+x)) 0
theorem qkr (l:List Int) (hl:l.length≤9223372036854775806) (d:Nat):∀ (s:Int) (i:Nat),i≤l.length→l.length-i=d→QY.l0 (d+1) s l (l.length:Int) i=some ((l.drop i).foldl (fun s x=>wrap64 (s+x)) s):=by
 induction d with
 | zero =>
  intro s i h1 h2
  obtain rfl:i=l.length:=by omega
  simp [QY.l0]
 | succ d ih =>
  intro s i h1 h2
  have hi:i<l.length:=by omega
  rw [QY.l0,if_pos (by omega),if_pos (by omega),if_pos (by omega)]
  have hw:wrap64 ((i:Int)+1)=((i+1:Nat):Int):=by unfold wrap64;omega
  rw [hw,ih _ (i+1) (by omega) (by omega)]
  conv=>rhs;rw [List.drop_eq_getElem_cons hi]
  simp only [rd,Int.toNat_natCast,List.getD_eq_getElem?_getD,List.getElem?_eq_getElem hi,Option.getD_some,List.foldl_cons]
theorem qmV (l:List Int) (hl:l.length≤9223372036854775806):QY.f (l.length+1) l=some (sumW l):=by
 have h:=qkr l hl l.length 0 0 (by omega) (by omega)
 simpa [QY.f,sumW] using h
theorem qaB (last:Int) (n keep:List Int):∀ k,(UC last n keep k).length=6
 | 0=>rfl
 | k+1=>by rw [UC,List.length_set,qaB last n keep k]
theorem qiE (m i:Int) (h:m≤i) (h0:0≤m):0≤i:=by omega
set_option maxHeartbeats 4000000 in
set_option maxRecDepth 100000 in
theorem Ze.calls6 (A0:Option Addr) (c0 m:Nat) (A1:Option Addr) (c1:Nat) (l1:List Int) (A2:Option Addr) (c2:Nat) (l2:List Int) (a3 a4:Int) (n:List Int) (take rec_:Int) (w:World)
  (hn:n.length=6) (hm1:1≤m) (hm6:m≤6) (e1:l1.length=m) (e2:l2.length=m) (hm0:0≤a4) (hmm:a4<m) (hr1:Kd.C (Kd.int .i64) w A1 l1.length l1) (hr2:Kd.C (Kd.int .i64) w A2 l2.length l2) :
  Calls Try.prog 77 #[.agg #[.slice A0 m c0,.slice A1 l1.length c1,.slice A2 l2.length c2,.int .i64 a3,.int .i64 a4],.agg #[.int .i64 (rd n 0),.int .i64 (rd n 1),.int .i64 (rd n 2),.int .i64 (rd n 3),.int .i64 (rd n 4),.int .i64 (rd n 5)],.int .i64 take,.int .i64 rec_] w fun e w' =>
   e = .returned (.tuple #[.int .i64 (sumW (KC (OB a4 m n take).1 l2 m)),.agg (ar6 ((UC ((m:Int)-1) (OB a4 m n take).1 l1 m).set 0 (wrap64 (rd (UC ((m:Int)-1) (OB a4 m n take).1 l1 m) 0+rec_)))).toArray])∧Below w.heap.size w w':=by
 have hu:=Try.underlying111
 have hu2:=Try.underlying39
 have hu3:=Try.underlying115
 have HR1:=Q1.mk hr1
 have HR2:=Q1.mk hr2
 have HN:=Q1.mk hn
 have HE1:=Q1.mk e1
 have HE2:=Q1.mk e2
 have HB:=Q1.mk (Below.refl w.heap.size w)
 clear hr1 hr2 hn e1 e2
 obtain ⟨R,hR⟩:∃ R,R=OB a4 m n take:=⟨_,rfl⟩
 rw [← hR]
 have HRR:=Q1.mk hR
 clear hR
 go_enter Try.func77,Try.ntmps77
 go_wp2_with (fail)
 have BR0:(((w.alloc (.cells #[.slice A0 m c0,.slice A1 l1.length c1,.slice A2 l2.length c2,.int .i64 a3,.int .i64 a4] 111)).alloc (.cells (ar6 n).toArray 115)).alloc (.cells (ar6 []).toArray 115)).heap[w.heap.size]? = some (.cells #[.slice A0 m c0,.slice A1 l1.length c1,.slice A2 l2.length c2,.int .i64 a3,.int .i64 a4] 111 (0,0)):=Q3 (Q3 (OH w _) _) _
 have I50:Is6 (((w.alloc (.cells #[.slice A0 m c0,.slice A1 l1.length c1,.slice A2 l2.length c2,.int .i64 a3,.int .i64 a4] 111)).alloc (.cells (ar6 n).toArray 115)).alloc (.cells (ar6 []).toArray 115)) (w.heap.size+1) n:=by
  have h:=OH (w.alloc (.cells #[.slice A0 m c0,.slice A1 l1.length c1,.slice A2 l2.length c2,.int .i64 a3,.int .i64 a4] 111)) (.cells (ar6 n).toArray 115)
  rw [World.size_alloc] at h
  exact Q3 h _
 have I90:Is6 (((w.alloc (.cells #[.slice A0 m c0,.slice A1 l1.length c1,.slice A2 l2.length c2,.int .i64 a3,.int .i64 a4] 111)).alloc (.cells (ar6 n).toArray 115)).alloc (.cells (ar6 []).toArray 115)) (w.heap.size+1+1) []:=by
  have h:=OH ((w.alloc (.cells #[.slice A0 m c0,.slice A1 l1.length c1,.slice A2 l2.length c2,.int .i64 a3,.int .i64 a4] 111)).alloc (.cells (ar6 n).toArray 115)) (.cells (ar6 []).toArray 115)
  rw [World.size_alloc,World.size_alloc] at h
  exact h
 have BR:=Q1.mk BR0
 have I5:=Q1.mk I50
 have I9:=Q1.mk I90
 clear BR0 I50 I90
 go_loopg [2,11] m (fun j v2 v11 w' => ∃ (t i:Int) (n':List Int),v2 = .int .i64 t∧v11 = .int .i64 i∧Q1 (i=(j:Int)-1)∧Q1 (j≤m)∧Q1 (n'.length=6)∧Q1 (R=OB a4 j n' t)∧Q1 (w'.heap[w.heap.size]? = some (.cells #[.slice A0 m c0,.slice A1 l1.length c1,.slice A2 l2.length c2,.int .i64 a3,.int .i64 a4] 111 (0,0)))∧Q1 (Is6 w' (w.heap.size+1) n')∧Q1 (Is6 w' (w.heap.size+1+1) [])∧Q1 (Below w.heap.size w w'))
 case atStart=>exact ⟨take,_,n,rfl,rfl,⟨rfl⟩,⟨Nat.le_refl _⟩,HN,HRR,BR,I5,I9,⟨Q2 (Q2 (Q2 HB.out _) _) _⟩⟩
 case round =>
  clear HRR BR I5 I9 HB HN
  obtain ⟨t,i,n',rfl,rfl,HI,HJ,HN,HRR,BR,I5,I9,HB⟩:=hrel
  have b0:wr.cell? ⟨w.heap.size,0,none⟩=some (.slice A0 m c0):=(Q8 BR.out 0).trans rfl
  have b1:wr.cell? ⟨w.heap.size,1,none⟩=some (.slice A1 l1.length c1):=(Q8 BR.out 1).trans rfl
  have b2:wr.cell? ⟨w.heap.size,2,none⟩=some (.slice A2 l2.length c2):=(Q8 BR.out 2).trans rfl
  have b3:wr.cell? ⟨w.heap.size,3,none⟩=some (.int .i64 a3):=(Q8 BR.out 3).trans rfl
  have b4:wr.cell? ⟨w.heap.size,4,none⟩=some (.int .i64 a4):=(Q8 BR.out 4).trans rfl
  by_cases hc:a4≤i
  ·
   have h0:0≤i:=qiE a4 i hc hm0
   have h6:i<6:=by have:=HI.out;have:=HJ.out;omega
   have hx:=I5.out.celli i h0 h6
   have hf:=I5.out.frz i.toNat
   obtain ⟨c,hce⟩:∃ c,(if t<rd n' i then t else rd n' i)=c:=⟨_,rfl⟩
   have HC:=Q1.mk (show mn (rd n' i) t=c from hce)
   go_wp2
   cases gk with
   | zero=>exact absurd h0 (by have:=HI.out;omega)
   | succ j =>
    have hij:i=(j:Int):=by have:=HI.out;omega
    subst hij
    go_roundg j
    case measure=>omega
    case rel=>exact ⟨_,_,_,rfl,rfl,⟨rfl⟩,⟨by have:=HJ.out;omega⟩,⟨by rw [List.length_set];exact HN.out⟩,⟨by rw [HRR.out,OB,if_pos hc,HC.out];rfl⟩,⟨Qm BR.out (Nat.ne_of_lt (Nat.lt_succ_self _)) _⟩,⟨I5.out.seti HN.out _ h0 h6 _⟩,⟨I9.out.far (Nat.succ_ne_self _) _⟩,⟨Q7 HB.out (Nat.le_succ _)⟩⟩
  ·
   have HRn:=Q1.mk (show R.1=n' by
    rw [HRR.out]
    cases gk with
    | zero=>rfl
    | succ j=>rw [OB,if_neg (by have:=HI.out;omega)])
   clear HRR HI HJ
   obtain ⟨W1,rfl⟩:∃ W1:World,W1=wr:=⟨_,rfl⟩
   have hlt:=I9.out.lt
   have I14:=Q1.mk (show Is6 (W1.alloc (.cells (ar6 []).toArray 115)) W1.heap.size [0,0,0,0,0,0] from OH W1 _)
   replace BR:=Q1.mk (Q3 BR.out (.cells (ar6 []).toArray 115))
   replace I5:=Q1.mk (I5.out.alloc (.cells (ar6 []).toArray 115))
   replace I9:=Q1.mk (I9.out.alloc (.cells (ar6 []).toArray 115))
   replace HB:=Q1.mk (Q2 HB.out (.cells (ar6 []).toArray 115))
   go_wp2
   clear b0 b1 b2 b3 b4
   go_loopg [13,46] m (fun d v13 v46 w' => ∃ (i:Int) (k:Nat) (sv:Value),v46 = .int .i64 i∧sv=v13∧Q1 (i=(k:Int))∧Q1 (k+d=m)∧Q1 (Kd.R (Kd.int .i64) 3 w' w.heap.size (fun _=>True) sv (KC n' l2 k))∧Q1 (Is6 w' W1.heap.size (UC ((m:Int)-1) n' l1 k))∧Q1 (w'.heap[w.heap.size]? = some (.cells #[.slice A0 m c0,.slice A1 l1.length c1,.slice A2 l2.length c2,.int .i64 a3,.int .i64 a4] 111 (0,0)))∧Q1 (Is6 w' (w.heap.size+1) n')∧Q1 (Is6 w' (w.heap.size+1+1) [])∧Q1 (Below w.heap.size w w'))
   case atStart=>exact ⟨_,0,_,rfl,rfl,⟨rfl⟩,⟨Nat.zero_add _⟩,⟨Kd.R_nil _ _ _ _ _⟩,I14,BR,I5,I9,HB⟩
   case round =>
    clear I14 BR I5 I9 HB;obtain ⟨x,k,sv,rfl,rfl,HX,HD,HS,I14,BR,I5,I9,HB⟩:=hrel;have b0:wr.cell? ⟨w.heap.size,0,none⟩=some (.slice A0 m c0):=(Q8 BR.out 0).trans rfl;have b1:wr.cell? ⟨w.heap.size,1,none⟩=some (.slice A1 l1.length c1):=(Q8 BR.out 1).trans rfl;have b2:wr.cell? ⟨w.heap.size,2,none⟩=some (.slice A2 l2.length c2):=(Q8 BR.out 2).trans rfl
    by_cases hk:x<(m:Int)
    ·
     have hx0:0≤x:=by have:=HX.out;omega
     have hx6:x<6:=by omega
     have h5:=I5.out.celli x hx0 hx6;obtain ⟨ad2,ea2,hw2⟩:=Kd.at_int HR2.out x hx0 (by have:=HE2.out;omega);subst ea2;have L2:=Q1.mk (World.block_lt_of_cell? w _ hw2);have hA2:=(HB.out.cell L2.out).trans hw2;have HW2:=Q1.mk hw2;clear hw2
     have hl2:x<(l2.length:Int):=by have:=HE2.out;omega
     obtain ⟨p,hp⟩:∃ p,p=wrap64 (rd n' x*rd l2 x):=⟨_,rfl⟩
     have hpw:IntKind.i64.wrap (rd n' x*rd l2 x)=p:=by rw [hp,Yn]
     have HP:=Q1.mk hp;clear hp
     go_wp2
     have hne5:=Kd.R_ne (Kd.R_drew HS.out) (Q6 I5.out) (by decide);have hneR:=Kd.R_ne (Kd.R_drew HS.out) (Q6 BR.out) (by decide)
     go_region_held3 (fun w'=>w'.cell? ⟨w.heap.size+1,x.toNat,none⟩=some (.int .i64 (rd n' x))∧w'.cell? ⟨w.heap.size,2,none⟩=some (.slice (some ad2) l2.length c2)∧w'.cell? (ad2.add x.toNat)=some (.int .i64 (rd l2 x)))
      (first|go_keep|exact ⟨(Is6.celli (JG (Q6 I5.out) hg1 hne5) x hx0 hx6),((Q8 (JG (Q6 BR.out) hg1 hneR) 2).trans rfl),((HB1.cell L2.out).trans HW2.out)⟩)
      ((refine Kd.R_append_step (Kd.int .i64) (w0:=w) (W:=wr.drew) w.heap.size ?hw (.tmp 49) (.tmp 60) 37 3 (.int .i64 0) 8 ?ho Try.underlying37 XU rfl ?n1 ?n2 sv (KC n' l2 k) p [.int .i64 p] (fun _=>True) (fun _=>False) ?e1 ?e2 rfl (fun _ h=>h.elim) (fun _ _=>trivial) (Kd.R_drew HS.out) (Ym HB.out) ?c1 ?c2 ?_;(case hw=>rfl);(case ho=>rfl);(case n1=>decide);(case n2=>decide);(case e1=>rfl);(case e2=>rfl);(case c1=>exact Qe (Ym HB.out));(case c2=>have:=HD.out;simp [KC];omega);intro v1 w1 HS1 HB1 hg1 qf3))
     have J5:=Q1.mk (show Is6 w1 (w.heap.size+1) n' from JG (Q6 I5.out) hg1 (Kd.R_ne (Kd.R_drew HS.out) (Q6 I5.out) (by decide)));have J9:=Q1.mk (show Is6 w1 (w.heap.size+1+1) [] from JG (Q6 I9.out) hg1 (Kd.R_ne (Kd.R_drew HS.out) (Q6 I9.out) (by decide)));have J14:=Q1.mk (show Is6 w1 W1.heap.size _ from JG (Q6 I14.out) hg1 (Kd.R_ne (Kd.R_drew HS.out) (Q6 I14.out) (by decide)));have JR:=Q1.mk (JG (Q6 BR.out) hg1 (Kd.R_ne (Kd.R_drew HS.out) (Q6 BR.out) (by decide)));have JS:=Q1.mk HS1;have JB:=Q1.mk HB1;clear I5 I9 I14 BR HS HB HS1 HB1 hg1 qf3 b0 b1 b2 h5 hA2 hl2 hpw;obtain ⟨y,hy⟩:∃ y,y=UC ((m:Int)-1) n' l1 k:=⟨_,rfl⟩;have HY:=Q1.mk hy;rw [← hy] at J14;clear hy;have d1:w1.cell? ⟨w.heap.size,1,none⟩=some (.slice A1 l1.length c1):=(Q8 JR.out 1).trans rfl;have h5:=J5.out.celli x hx0 hx6;obtain ⟨ad1,ea1,hw1⟩:=Kd.at_int HR1.out x hx0 (by have:=HE1.out;omega);subst ea1;have L1:=Q1.mk (World.block_lt_of_cell? w _ hw1);have hA1:=(JB.out.cell L1.out).trans hw1;have HW1:=Q1.mk hw1;clear hw1
     have hl1:x<(l1.length:Int):=by have:=HE1.out;omega
     obtain ⟨jx,hjx⟩:∃ jx,(if (m:Int)-1<x+1 then (m:Int)-1 else x+1)=jx:=⟨_,rfl⟩;have HJX:=Q1.mk (show mn (x+1) ((m:Int)-1)=jx from hjx)
     have hj0:0≤jx:=by rw [← hjx];split<;>omega
     have hj6:jx<6:=by rw [← hjx];split<;>omega
     have h14:=J14.out.celli jx hj0 hj6;have f14:=J14.out.frz jx.toNat
     have hwx:IntKind.i64.wrap (x+1)=x+1:=by rw [Yn];unfold wrap64;omega
     obtain ⟨q1,hq1⟩:∃ q1,IntKind.i64.wrap (rd n' x*rd l1 x)=q1:=⟨_,rfl⟩;obtain ⟨q2,hq2⟩:∃ q2,IntKind.i64.wrap (Int.tdiv q1 1000)=q2:=⟨_,rfl⟩;obtain ⟨q3,hq3⟩:∃ q3,IntKind.i64.wrap (rd y jx+q2)=q3:=⟨_,rfl⟩;have HQ:=Q1.mk (show q3=wrap64 (rd y jx+wrap64 (Int.tdiv (wrap64 (rd n' x*rd l1 x)) 1000)) by rw [← hq3,← hq2,← hq1,Yn,Yn,Yn])
     go_wp2
     go_still_tail 19,(by kernel_rfl)
     change wpList _ _ _ _ _ w1.drew
     go_wp2
     cases gk with
     | zero=>exact absurd hk (by have:=HX.out;have:=HD.out;omega)
     | succ d =>
      have hxk:x=(k:Int):=HX.out
      go_roundg d
      case measure=>omega
      case rel =>
       have hgt:w.heap.size<W1.heap.size:=by omega
       refine ⟨_,k+1,_,rfl,rfl,⟨by rw [hxk];rfl⟩,⟨by have:=HD.out;omega⟩,⟨?_⟩,⟨?_⟩,⟨Qm (Q6 JR.out) (Nat.ne_of_lt hgt) _⟩,⟨J5.out.drew.far (Nat.ne_of_lt (by show w.heap.size+1<W1.heap.size;omega)) _⟩,⟨J9.out.drew.far (Nat.ne_of_lt hlt) _⟩,⟨Q7 (Ym JB.out) (Nat.le_of_lt hgt)⟩⟩
       ·
        have e:KC n' l2 (k+1)=KC n' l2 k++[p]:=by
         rw [HP.out,hxk];simp [KC,List.range_succ]
        rw [e]
        exact qjl (Kd.R_drew JS.out) J14.out.drew _ _
       ·
        have e:UC ((m:Int)-1) n' l1 (k+1)=y.set jx.toNat q3:=by
         rw [UC,← HY.out,← hxk,HJX.out,HQ.out]
        rw [e]
        exact J14.out.drew.seti (by rw [HY.out];exact qaB _ _ _ k) jx hj0 hj6 q3
    ·
     have hkm:k=m:=by have:=HX.out;have:=HD.out;omega
     subst hkm;obtain ⟨y,hy⟩:∃ y,y=UC ((k:Int)-1) n' l1 k:=⟨_,rfl⟩;have HY:=Q1.mk hy;rw [← hy] at I14;clear hy;obtain ⟨i0,i1,i2,i3,i4,i5⟩:=I14.out.cells;have f0:=I14.out.frz 0;obtain ⟨z,hz⟩:∃ z,wrap64 (rd y 0+rec_)=z:=⟨_,rfl⟩;obtain ⟨As,cs,hsv⟩:=Kd.R_slice HS.out;subst hsv;have hcs:=(Kd.R_reads' HS.out).2.1;have HSL:=Q1.mk (show (KC n' l2 k).length=k by simp [KC])
     have hgt:w.heap.size<W1.heap.size:=by omega
     have Y14:=Q1.mk (show Is6 (wr.setCell ⟨W1.heap.size,0,none⟩ (.int .i64 z)) W1.heap.size (y.set 0 z) from I14.out.set (by rw [HY.out];exact qaB _ _ _ k) 0 (by omega) z);have YS:=Q1.mk (qjl HS.out I14.out 0 (.int .i64 z));have Y9:=Q1.mk (I9.out.far (p:=⟨W1.heap.size,0,none⟩) (Nat.ne_of_lt hlt) (.int .i64 z));have YB:=Q1.mk (Q7 (j:=0) (v:=.int .i64 z) HB.out (Nat.le_of_lt hgt))
     go_wp2
     generalize wr.setCell ⟨W1.heap.size,0,none⟩ (.int .i64 z)=w2 at Y14 YS Y9 YB ⊢
     clear i0 i1 i2 i3 i4 i5 f0 b0 b1 b2;obtain ⟨i0,i1,i2,i3,i4,i5⟩:=Y14.out.cells;obtain ⟨z0,z1,z2,z3,z4,z5⟩:=Y9.out.cells;obtain ⟨f0,f1,f2,f3,f4,f5⟩:=Y9.out.frozen
     go_region_with (go_at_call 97;refine (QY.calls ((KC n' l2 k).length+1) As cs (KC n' l2 k) (sumW (KC n' l2 k)) _ ?hr hcs ?hs).mono ?_;(case hr=>exact Kd.C_below (Kd.R_reads' YS.out).2.2 (by repeat (first|exact Below.refl _ _|apply Ym|apply Q0)));(case hs=>exact qmV _ (by rw [HSL.out];omega));rintro e w' ⟨rfl,⟨nq,rfl⟩⟩)
     all_goals
      go_wp2
      refine bodyPost_ret (qgQ rfl _ _ (w.heap.size+1+1) 115 (ar6 (y.set 0 z)).toArray (0,0) _ rfl (Is6.put6 (Y9.out.drewN _) (y.set 0 z)) Try.underlying115 rfl (by kernel_rfl)) rfl ?_;refine ⟨?_,?_⟩
      ·
       show Ending.returned (.tuple #[.int .i64 (sumW (KC n' l2 k)),.agg (ar6 (y.set 0 z)).toArray])=_
       rw [HRn.out,← HY.out,hz]
      ·
       have h1:w.heap.size≤w.heap.size+1+1:=by omega
       exact Q7 (Q7 (Q7 (Q7 (Q7 (Q7 (Q0 YB.out _) h1) h1) h1) h1) h1) h1
def qck (m:Nat) (mesh:Int) (keep spawn n:List Int) (take rec_:Int):Int × List Int :=
 (sumW (KC (OB mesh m n take).1 spawn m),(UC ((m:Int)-1) (OB mesh m n take).1 keep m).set 0 (wrap64 (rd (UC ((m:Int)-1) (OB mesh m n take).1 keep m) 0+rec_)))
def okR (l0 l1 l2:List Int) (a4:Int):Prop:=1≤l0.length∧l0.length≤6∧l1.length=l0.length∧l2.length=l0.length∧0≤a4∧a4<(l0.length:Int)
instance (l0 l1 l2:List Int) (a4:Int):Decidable (okR l0 l1 l2 a4):=by unfold okR;infer_instance
def Ze.f (Qb Qi Qd:List Int) (Yc Yb qbQ qbR qbS qbT qbU qbV a2 a3:Int):Option (Int × Int × Int × Int × Int × Int × Int) :=
 if okR Qb Qi Qd Yb then
  some ((qck Qb.length Yb Qi Qd [qbQ,qbR,qbS,qbT,qbU,qbV] a2 a3).1,
   rd (qck Qb.length Yb Qi Qd [qbQ,qbR,qbS,qbT,qbU,qbV] a2 a3).2 0,rd (qck Qb.length Yb Qi Qd [qbQ,qbR,qbS,qbT,qbU,qbV] a2 a3).2 1,
   rd (qck Qb.length Yb Qi Qd [qbQ,qbR,qbS,qbT,qbU,qbV] a2 a3).2 2,rd (qck Qb.length Yb Qi Qd [qbQ,qbR,qbS,qbT,qbU,qbV] a2 a3).2 3,
   rd (qck Qb.length Yb Qi Qd [qbQ,qbR,qbS,qbT,qbU,qbV] a2 a3).2 4,rd (qck Qb.length Yb Qi Qd [qbQ,qbR,qbS,qbT,qbU,qbV] a2 a3).2 5)
 else none
theorem Ze.calls (Y4:Option Addr) (QG:Nat) (Qb:List Int) (Y2:Option Addr) (QI:Nat) (Qi:List Int) (Y7:Option Addr) (QJ:Nat) (Qd:List Int) (Yc Yb qbQ qbR qbS qbT qbU qbV a2 a3 r1 r2 r3 r4 r5 r6 r7:Int) (w:World)
  (Gl:Kd.C (Kd.int .i64) w Y4 Qb.length Qb) (GA:Qb.length≤QG) (Gm:Kd.C (Kd.int .i64) w Y2 Qi.length Qi) (GC:Qi.length≤QI) (Gn:Kd.C (Kd.int .i64) w Y7 Qd.length Qd) (GD:Qd.length≤QJ)
  (h:Ze.f Qb Qi Qd Yc Yb qbQ qbR qbS qbT qbU qbV a2 a3=some (r1,r2,r3,r4,r5,r6,r7)) :
  Calls Try.prog 77 #[.agg #[.slice Y4 Qb.length QG,.slice Y2 Qi.length QI,.slice Y7 Qd.length QJ,.int .i64 Yc,.int .i64 Yb],.agg #[.int .i64 qbQ,.int .i64 qbR,.int .i64 qbS,.int .i64 qbT,.int .i64 qbU,.int .i64 qbV],.int .i64 a2,.int .i64 a3] w fun e w' =>
   e = .returned (.tuple #[.int .i64 r1,.agg #[.int .i64 r2,.int .i64 r3,.int .i64 r4,.int .i64 r5,.int .i64 r6,.int .i64 r7]])∧Below w.heap.size w w':=by
 unfold Ze.f at h
 by_cases hv:okR Qb Qi Qd Yb
 ·
  rw [if_pos hv] at h
  obtain ⟨h1,h2,h3,h4,h5,h6⟩:=hv
  injection h with h
  simp only [Prod.mk.injEq] at h
  obtain ⟨rfl,rfl,rfl,rfl,rfl,rfl,rfl⟩:=h
  exact Ze.calls6 Y4 QG Qb.length Y2 QI Qi Y7 QJ Qd Yc Yb [qbQ,qbR,qbS,qbT,qbU,qbV] a2 a3 w rfl h1 h2 h3 h4 h5 h6 Gm Gn
 ·
  rw [if_neg hv] at h
  exact absurd h (by simp)
end
section
attribute [local go_sem] Yr Yt YM YN Yi Yj Ys Yu
mutual
def QC.j0:Nat→List Int→List Int→Bool→List Int→List Int→List Int→Int→Int→Option (List Int × Int)
 | 0,_,_,_,_,_,_,_,_=>none
 | k+1,x1,x2,x9,K0,K1,K2,Ka,Kb=>QC.l0 k x1 x2 x9 0 K0 K1 K2 Ka Kb
def QC.l0:Nat→List Int→List Int→Bool→Int→List Int→List Int→List Int→Int→Int→Option (List Int × Int)
 | 0,_,_,_,_,_,_,_,_,_=>none
 | k+1,x1,x2,x9,x10,K0,K1,K2,Ka,Kb=>if x9=true then (QC.j2 k x1 x2 x9 x10 (decide (x10<(x1.length:Int))) K0 K1 K2 Ka Kb) else (QC.j2 k x1 x2 x9 x10 false K0 K1 K2 Ka Kb)
def QC.j2:Nat→List Int→List Int→Bool→Int→Bool→List Int→List Int→List Int→Int→Int→Option (List Int × Int)
 | 0,_,_,_,_,_,_,_,_,_,_=>none
 | k+1,x1,x2,x9,x10,x39,K0,K1,K2,Ka,Kb=>if x39=true then (if 0≤x10 then (if x10<(x1.length:Int) then ((Ql.f (rd x1 x10) 0 100000000).bind fun t159=>(if t159=true then (if x10<(x2.length:Int) then ((Ql.f (rd x2 x10) 0 100000).bind fun qca=>(QC.l0 k x1 x2 qca (wrap64 (x10+1)) K0 K1 K2 Ka Kb)) else (none)) else (QC.l0 k x1 x2 false (wrap64 (x10+1)) K0 K1 K2 Ka Kb))) else (none)) else (none)) else (if x9=true then ((Z4.f K0 K1 K2 Ka Kb).bind fun Kp=>(QC.l1 k x1 x2 ([]:List Int) (x1.length:Int) 0 K0 K1 K2 Ka Kb Kp.1 Kp.2.1 Kp.2.2.1 Kp.2.2.2.1 Kp.2.2.2.2.1 Kp.2.2.2.2.2)) else (some (([]:List Int),92)))
def QC.l1:Nat→List Int→List Int→List Int→Int→Int→List Int→List Int→List Int→Int→Int→Int→Int→Int→Int→Int→Int→Option (List Int × Int)
 | 0,_,_,_,_,_,_,_,_,_,_,_,_,_,_,_,_=>none
 | k+1,x1,x2,x13,x59,x60,K0,K1,K2,Ka,Kb,qm3,qm4,qm5,qm6,qm7,qm8=>if x60<x59 then (if 0≤x60 then (if x60<(x1.length:Int) then (if x60<(x2.length:Int) then ((Ze.f K0 K1 K2 Ka Kb qm3 qm4 qm5 qm6 qm7 qm8 (rd x1 x60) (rd x2 x60)).bind fun qbW=>(if x13.length<17592186044416 then (QC.l1 k x1 x2 (x13++[qbW.1]) x59 (wrap64 (x60+1)) K0 K1 K2 Ka Kb qbW.2.1 qbW.2.2.1 qbW.2.2.2.1 qbW.2.2.2.2.1 qbW.2.2.2.2.2.1 qbW.2.2.2.2.2.2) else (none))) else (none)) else (none)) else (none)) else (if 0≤(x13.length:Int) then (if (x13.length:Int)≤(x13.length:Int) then (some ((x13.take ((x13.length:Int):Int).toNat),0)) else (none)) else (none))
end
def QC.f (k:Nat) (Qb:List Int) (Qi:List Int) (Qd:List Int) (Yc:Int) (Yb:Int) (l1:List Int) (l2:List Int):Option (List Int × Int):=(Qn.f k Qb Qi Qd Yc Yb).bind fun t156=>(if t156=true then ((Ql.f (l1.length:Int) 1 10).bind fun t157=>(if t157=true then (QC.j0 k l1 l2 ((l2.length:Int)==(l1.length:Int)) Qb Qi Qd Yc Yb) else (QC.j0 k l1 l2 false Qb Qi Qd Yc Yb))) else (QC.j0 k l1 l2 false Qb Qi Qd Yc Yb))
def QC.T15:Bool × List (List Nat × List Nat):=(true,[([],[]),([],[]),([],[]),([],[]),([],[]),([3,4],[3,4]),([5],[5]),([],[]),([],[]),([7,8],[7,8]),([9],[9]),([0,1,2,6,10],[0,1,2,6,10]),([11],[11]),([12],[12]),([12],[12]),([],[]),([13,11,0,1,2,3,4,5,6,7,8,9,10,11,12,13,15],[13]),([15,14,16,0,1,2,3,4,5,6,7,8,9,10,11,12,13,14,15,16],[14,15])])
def QC.B15:List Nat:=[0,0,0,0,0,24,56,0,0,384,896,2047,4095,8191,8191,0,49151,131071]
theorem QC.tab15:rtab .any (qhW Try.f25 15)=QC.T15:=by kernel_rfl
theorem QC.bits15:Ud QC.T15.2 QC.B15=true:=by kernel_rfl
set_option maxHeartbeats 8000000 in
set_option maxRecDepth 100000 in
theorem QC.calls (k:Nat) (Y4:Option Addr) (QG:Nat) (Qb:List Int) (Y2:Option Addr) (QI:Nat) (Qi:List Int) (Y7:Option Addr) (QJ:Nat) (Qd:List Int) (Yc:Int) (Yb:Int) (A1:Option Addr) (c1:Nat) (l1:List Int) (A2:Option Addr) (c2:Nat) (l2:List Int) (r1:List Int) (r2:Int) (w:World) (Gl:Kd.C (Kd.int .i64) w Y4 Qb.length Qb) (GA:Qb.length≤QG) (Gm:Kd.C (Kd.int .i64) w Y2 Qi.length Qi) (GC:Qi.length≤QI) (Gn:Kd.C (Kd.int .i64) w Y7 Qd.length Qd) (GD:Qd.length≤QJ) (hr1:Kd.C (Kd.int .i64) w A1 l1.length l1) (hc1:l1.length≤c1) (hr2:Kd.C (Kd.int .i64) w A2 l2.length l2) (hc2:l2.length≤c2) (h:QC.f k Qb Qi Qd Yc Yb l1 l2=some (r1,r2)) :
  Calls Try.prog 25 #[.agg #[.slice Y4 Qb.length QG,.slice Y2 Qi.length QI,.slice Y7 Qd.length QJ,.int .i64 Yc,.int .i64 Yb],.slice A1 l1.length c1,.slice A2 l2.length c2] w fun e w' => ∃ v0_:Value,e = .returned (.tuple #[v0_,.int .i64 r2])∧Kd.V (Kd.int .i64) 3 w' w.heap.size (fun k_=>(w.heap.size≤k_)) v0_ r1∧Below w.heap.size w w':=by
 have qmj:=Try.underlying39
 have qj2:=Try.underlying111
 have qsc:=Try.underlying115
 have Jr:=Q1.mk Gl
 have JK:=Q1.mk GA
 clear Gl GA
 have Jz:=Q1.mk Gm
 have JL:=Q1.mk GC
 clear Gm GC
 have JA:=Q1.mk Gn
 have JM:=Q1.mk GD
 clear Gn GD
 have HR1:=Q1.mk hr1
 have HC1:=Q1.mk hc1
 clear hr1 hc1
 have HR2:=Q1.mk hr2
 have HC2:=Q1.mk hc2
 clear hr2 hc2
 have HB:=Q1.mk (Below.refl w.heap.size w)
 have H:((Qn.f k Qb Qi Qd Yc Yb).bind fun t156=>(if t156=true then ((Ql.f (l1.length:Int) 1 10).bind fun t157=>(if t157=true then (QC.j0 k l1 l2 ((l2.length:Int)==(l1.length:Int)) Qb Qi Qd Yc Yb) else (QC.j0 k l1 l2 false Qb Qi Qd Yc Yb))) else (QC.j0 k l1 l2 false Qb Qi Qd Yc Yb)))=some (r1,r2):=h
 clear h
 have HC4:=Q1.mk H
 clear H
 go_enter Try.func25,Try.ntmps25
 go_upto_region 2 with (first|((with_reducible refine Y0 (N:=3) rfl ?_);(try (refine Ke (by rfl) ?_;dsimp only));refine Yv ?hg (N:=3) ?hd (cs:=#[.slice Y4 Qb.length QG,.slice Y2 Qi.length QI,.slice Y7 Qd.length QJ,.int .i64 Yc,.int .i64 Yb]) (t:=39) ?hr ?_;(case hd=>rfl);(case hg=>rfl);(case hr=>first|(go_simp;done)|(go_simp;rfl));intro ZQ hg w5 hbox hb;have n0_:=Q1.mk (Qj (by repeat (first|(with_reducible first|exact HB.out|apply Q2|apply Q0|apply Q5)|exact HB.out)) hb);have n1_:=Q1.mk (hbox);have n2_:=Q1.mk ((by rw [hg];exact (Qe (by repeat (first|(with_reducible first|exact HB.out|apply Q2|apply Q0|apply Q5)|exact HB.out))):w.heap.size≤ZQ));have n3_:=n2_;clear HB;have HB:=n0_;have YL:=n1_;have qAd:=n2_;have ZN:=n3_;clear n0_ n1_ n2_ n3_ hb hbox hg;have WW:w5.cell? ⟨ZQ,0,none⟩=some (.slice Y4 Qb.length QG):=(Q8 YL.out 0).trans rfl;have WX:w5.cell? ⟨ZQ,1,none⟩=some (.slice Y2 Qi.length QI):=(Q8 YL.out 1).trans rfl;have qaq:w5.cell? ⟨ZQ,2,none⟩=some (.slice Y7 Qd.length QJ):=(Q8 YL.out 2).trans rfl;have qdn:w5.cell? ⟨ZQ,3,none⟩=some (.int .i64 Yc):=(Q8 YL.out 3).trans rfl;have qdo:w5.cell? ⟨ZQ,4,none⟩=some (.int .i64 Yb):=(Q8 YL.out 4).trans rfl;have WY:=Q9 YL.out 0;have WZ:=Q9 YL.out 1;have qar:=Q9 YL.out 2;have qdz:=Q9 YL.out 3;have qdA:=Q9 YL.out 4)|((with_reducible refine Y0 (N:=8) rfl ?_);(try (refine Ke (by rfl) ?_;dsimp only));refine Yv ?hg (N:=8) ?hd (cs:=#[.slice none 0 0,.slice none 0 0,.slice none 0 0,.int .i64 0,.int .i64 0]) (t:=111) ?hr ?_;(case hd=>rfl);(case hg=>rfl);(case hr=>first|(go_simp;done)|(go_simp;rfl));intro YQ hg w7 hbox hb;have n0_:=Q1.mk (Qf (g:=ZQ) (by (with_reducible repeat (first|refine Q4 ?_ _|refine Q6 ?_|refine Q3 ?_ _));exact YL.out) hb);have n1_:=Q1.mk (Qj (by repeat (first|(with_reducible first|exact HB.out|apply Q2|apply Q0|apply Q5|refine Q7 ?_ ZN.out)|exact HB.out)) hb);have n2_:=Q1.mk (hbox);have n3_:=Q1.mk ((by rw [hg];exact (Qe (by repeat (first|(with_reducible first|exact HB.out|apply Q2|apply Q0|apply Q5|refine Q7 ?_ ZN.out)|exact HB.out))):w.heap.size≤YQ));have n4_:=n3_;have n5_:=Q1.mk ((by rw [hg];exact Nat.ne_of_lt (QL (g:=ZQ) (by (with_reducible repeat (first|refine Q4 ?_ _|refine Q6 ?_|refine Q3 ?_ _));exact YL.out)):ZQ≠YQ));have n6_:=Q1.mk (n5_.out.symm);clear YL HB;have YL:=n0_;have HB:=n1_;have QZ:=n2_;have qAe:=n3_;have ZV:=n4_;have ZC:=n5_;have Us:=n6_;clear n0_ n1_ n2_ n3_ n4_ n5_ n6_ hb hbox hg;have qCK:=Us.out;have qCL:=ZC.out;have Kg:w7.cell? ⟨YQ,0,none⟩=some (.slice none 0 0):=(Q8 QZ.out 0).trans rfl;have Kh:w7.cell? ⟨YQ,1,none⟩=some (.slice none 0 0):=(Q8 QZ.out 1).trans rfl;have Ki:w7.cell? ⟨YQ,2,none⟩=some (.slice none 0 0):=(Q8 QZ.out 2).trans rfl;have qdp:w7.cell? ⟨YQ,3,none⟩=some (.int .i64 0):=(Q8 QZ.out 3).trans rfl;have qdq:w7.cell? ⟨YQ,4,none⟩=some (.int .i64 0):=(Q8 QZ.out 4).trans rfl;have Kk:=Q9 QZ.out 0;have Kl:=Q9 QZ.out 1;have Km:=Q9 QZ.out 2;have qdB:=Q9 QZ.out 3;have qdC:=Q9 QZ.out 4))
 (try simp only [Act.put,List.setIfInBounds_toArray,List.set_cons_zero,List.set_cons_succ])
 go_cut [9] (fun v9 wc => ∃ (kq:Nat) (qna:Bool),v9 = .bool qna∧Q1 (QC.j0 kq l1 l2 qna Qb Qi Qd Yc Yb=some (r1,r2))∧Q1 (kq≤k)∧Q1 (wc.heap[ZQ]? = some (.cells #[(.slice Y4 Qb.length QG),(.slice Y2 Qi.length QI),(.slice Y7 Qd.length QJ),.int .i64 Yc,.int .i64 Yb] 39 (0,0)))∧Q1 (wc.heap[YQ]? = some (.cells #[(.slice Y4 Qb.length QG),(.slice Y2 Qi.length QI),(.slice Y7 Qd.length QJ),.int .i64 Yc,.int .i64 Yb] 111 (0,0)))∧Q1 (Below w.heap.size w wc))
 case first =>
  have H:=HC4.out
  clear HC4
  replace H:=Option.bind_eq_some_iff.mp H
  obtain ⟨t156,qel,H⟩:=H
  replace H:(if t156=true then ((Ql.f (l1.length:Int) 1 10).bind fun t157=>(if t157=true then (QC.j0 k l1 l2 ((l2.length:Int)==(l1.length:Int)) Qb Qi Qd Yc Yb) else (QC.j0 k l1 l2 false Qb Qi Qd Yc Yb))) else (QC.j0 k l1 l2 false Qb Qi Qd Yc Yb))=some (r1,r2):=H
  have A10:=Q1.mk qel
  clear qel
  by_cases c11:t156=true
  ·
   subst c11
   have H1:((Ql.f (l1.length:Int) 1 10).bind fun t157=>(if t157=true then (QC.j0 k l1 l2 ((l2.length:Int)==(l1.length:Int)) Qb Qi Qd Yc Yb) else (QC.j0 k l1 l2 false Qb Qi Qd Yc Yb)))=some (r1,r2):=by rw [if_pos rfl] at H;exact H
   clear H
   have H:=H1
   clear H1
   replace H:=Option.bind_eq_some_iff.mp H
   obtain ⟨t157,qbJ,H⟩:=H
   replace H:(if t157=true then (QC.j0 k l1 l2 ((l2.length:Int)==(l1.length:Int)) Qb Qi Qd Yc Yb) else (QC.j0 k l1 l2 false Qb Qi Qd Yc Yb))=some (r1,r2):=H
   have A12:=Q1.mk qbJ
   clear qbJ
   by_cases c13:t157=true
   ·
    subst c13
    have H1:(QC.j0 k l1 l2 ((l2.length:Int)==(l1.length:Int)) Qb Qi Qd Yc Yb)=some (r1,r2):=by rw [if_pos rfl] at H;exact H
    clear H;have H:=H1;clear H1;have H':=Q1.mk H;clear H;have qAY:=Us.out;have qBA:=ZC.out;have Oa:w7.cell? ⟨YQ,0,none⟩=some (.slice none 0 0):=(Q8 QZ.out 0).trans rfl;have Ob:w7.cell? ⟨YQ,1,none⟩=some (.slice none 0 0):=(Q8 QZ.out 1).trans rfl;have OQ:w7.cell? ⟨YQ,2,none⟩=some (.slice none 0 0):=(Q8 QZ.out 2).trans rfl;have OR:w7.cell? ⟨YQ,3,none⟩=some (.int .i64 0):=(Q8 QZ.out 3).trans rfl;have OS:w7.cell? ⟨YQ,4,none⟩=some (.int .i64 0):=(Q8 QZ.out 4).trans rfl;have Of:=Q9 QZ.out 0;have Og:=Q9 QZ.out 1;have U2:=Q9 QZ.out 2;have U3:=Q9 QZ.out 3;have U4:=Q9 QZ.out 4
    go_wp2_with (first|((with_reducible refine Qp (f:=76) rfl ?_);refine Yd (some 20) rfl rfl Try.func76 (by kernel_rfl) rfl #[.agg #[.slice Y4 Qb.length QG,.slice Y2 Qi.length QI,.slice Y7 Qd.length QJ,.int .i64 Yc,.int .i64 Yb]] rfl (by (try simp only [List.map_toArray,List.map_cons,List.map_nil]);first|done|rfl|(simp only [List.length_drop,List.length_take];rfl)) ?_;(with_reducible refine (Qn.calls k _ _ Qb _ _ Qi _ _ Qd Yc Yb true _ ?side1 ?side2 ?side3 ?side4 ?side5 ?side6 A10.out).mono ?_);(case side1=>exact Kd.C_below Jr.out (by repeat (first|(with_reducible first|exact HB.out|apply Q2|apply Q0|apply Q5|refine Q7 ?_ ZN.out|refine Q7 ?_ ZV.out)|exact HB.out)));(case side2=>exact JK.out);(case side3=>exact Kd.C_below Jz.out (by repeat (first|(with_reducible first|exact HB.out|apply Q2|apply Q0|apply Q5|refine Q7 ?_ ZN.out|refine Q7 ?_ ZV.out)|exact HB.out)));(case side4=>exact JL.out);(case side5=>exact Kd.C_below JA.out (by repeat (first|(with_reducible first|exact HB.out|apply Q2|apply Q0|apply Q5|refine Q7 ?_ ZN.out|refine Q7 ?_ ZV.out)|exact HB.out)));(case side6=>exact JM.out);rintro e w16 ⟨rfl,hb⟩;refine ⟨_,rfl,?_⟩;have n0_:=Q1.mk (Qf (g:=ZQ) (o:=.cells #[.slice Y4 Qb.length QG,.slice Y2 Qi.length QI,.slice Y7 Qd.length QJ,.int .i64 Yc,.int .i64 Yb] 39 (0,0)) (by (with_reducible repeat (first|refine Q4 ?_ _|refine Q6 ?_|refine Q3 ?_ _));refine Qm ?_ ZC.out _;(with_reducible repeat (first|refine Q4 ?_ _|refine Q6 ?_|refine Q3 ?_ _));refine Qm ?_ ZC.out _;(with_reducible repeat (first|refine Q4 ?_ _|refine Q6 ?_|refine Q3 ?_ _));refine Qm ?_ ZC.out _;(with_reducible repeat (first|refine Q4 ?_ _|refine Q6 ?_|refine Q3 ?_ _));refine Qm ?_ ZC.out _;(with_reducible repeat (first|refine Q4 ?_ _|refine Q6 ?_|refine Q3 ?_ _));refine Qm ?_ ZC.out _;(with_reducible repeat (first|refine Q4 ?_ _|refine Q6 ?_|refine Q3 ?_ _));exact YL.out) hb);have n1_:=Q1.mk (Qf (g:=YQ) (o:=.cells #[.slice Y4 Qb.length QG,.slice Y2 Qi.length QI,.slice Y7 Qd.length QJ,.int .i64 Yc,.int .i64 Yb] 111 (0,0)) (by (with_reducible repeat (first|refine Q4 ?_ _|refine Q6 ?_|refine Q3 ?_ _));refine Qv (cs:=#[.slice Y4 Qb.length QG,.slice Y2 Qi.length QI,.slice Y7 Qd.length QJ,.int .i64 Yc,.int .i64 0]) ?_ 4 _ rfl;(with_reducible repeat (first|refine Q4 ?_ _|refine Q6 ?_|refine Q3 ?_ _));refine Qv (cs:=#[.slice Y4 Qb.length QG,.slice Y2 Qi.length QI,.slice Y7 Qd.length QJ,.int .i64 0,.int .i64 0]) ?_ 3 _ rfl;(with_reducible repeat (first|refine Q4 ?_ _|refine Q6 ?_|refine Q3 ?_ _));refine Qv (cs:=#[.slice Y4 Qb.length QG,.slice Y2 Qi.length QI,.slice none 0 0,.int .i64 0,.int .i64 0]) ?_ 2 _ rfl;(with_reducible repeat (first|refine Q4 ?_ _|refine Q6 ?_|refine Q3 ?_ _));refine Qv (cs:=#[.slice Y4 Qb.length QG,.slice none 0 0,.slice none 0 0,.int .i64 0,.int .i64 0]) ?_ 1 _ rfl;(with_reducible repeat (first|refine Q4 ?_ _|refine Q6 ?_|refine Q3 ?_ _));refine Qv (cs:=#[.slice none 0 0,.slice none 0 0,.slice none 0 0,.int .i64 0,.int .i64 0]) ?_ 0 _ rfl;(with_reducible repeat (first|refine Q4 ?_ _|refine Q6 ?_|refine Q3 ?_ _));exact QZ.out) hb);have n2_:=Q1.mk (Qj (by repeat (first|(with_reducible first|exact HB.out|apply Q2|apply Q0|apply Q5|refine Q7 ?_ ZN.out|refine Q7 ?_ ZV.out)|exact HB.out)) hb);clear YL QZ HB;have YL:=n0_;have QZ:=n1_;have HB:=n2_;clear n0_ n1_ n2_;(try clear hb);(try clear hb2);(try clear hk);(try clear hi))|(go_at_call 65;(with_reducible refine (Ql.calls (l1.length:Int) 1 10 true _ A12.out).mono ?_);rintro e w' ⟨rfl,⟨nd,rfl⟩⟩))
    go_meet
    case rel=>exact ⟨_,(((l2.length:Int)==(l1.length:Int))),(by first|rfl|(simp;done)|(simp [*];done)),H',⟨by first|omega|exact Nat.le_refl _⟩,⟨by (with_reducible repeat (first|refine Q4 ?_ _|refine Q6 ?_|refine Q3 ?_ _));exact YL.out⟩,⟨by (with_reducible repeat (first|refine Q4 ?_ _|refine Q6 ?_|refine Q3 ?_ _));exact QZ.out⟩,⟨by repeat (first|(with_reducible first|exact HB.out|apply Q2|apply Q0|apply Q5|refine Q7 ?_ ZN.out|refine Q7 ?_ ZV.out)|exact HB.out)⟩⟩
   replace c13:=Bool.eq_false_iff.mpr c13
   subst c13
   have H1:(QC.j0 k l1 l2 false Qb Qi Qd Yc Yb)=some (r1,r2):=by rw [if_neg (show ¬ (false=true) by decide)] at H;exact H
   clear H
   have H:=H1
   clear H1
   have H':=Q1.mk H
   clear H
   have qrH:=Us.out
   have qrV:=ZC.out
   have OT:w7.cell? ⟨YQ,0,none⟩=some (.slice none 0 0):=(Q8 QZ.out 0).trans rfl
   have OU:w7.cell? ⟨YQ,1,none⟩=some (.slice none 0 0):=(Q8 QZ.out 1).trans rfl
   have OV:w7.cell? ⟨YQ,2,none⟩=some (.slice none 0 0):=(Q8 QZ.out 2).trans rfl
   have qa9:w7.cell? ⟨YQ,3,none⟩=some (.int .i64 0):=(Q8 QZ.out 3).trans rfl
   have qba:w7.cell? ⟨YQ,4,none⟩=some (.int .i64 0):=(Q8 QZ.out 4).trans rfl
   have U5:=Q9 QZ.out 0
   have U6:=Q9 QZ.out 1
   have U7:=Q9 QZ.out 2
   have qbk:=Q9 QZ.out 3
   have qbl:=Q9 QZ.out 4
   go_wp2_with (first|((with_reducible refine Qp (f:=76) rfl ?_);refine Yd (some 20) rfl rfl Try.func76 (by kernel_rfl) rfl #[.agg #[.slice Y4 Qb.length QG,.slice Y2 Qi.length QI,.slice Y7 Qd.length QJ,.int .i64 Yc,.int .i64 Yb]] rfl (by (try simp only [List.map_toArray,List.map_cons,List.map_nil]);first|done|rfl|(simp only [List.length_drop,List.length_take];rfl)) ?_;(with_reducible refine (Qn.calls k _ _ Qb _ _ Qi _ _ Qd Yc Yb true _ ?side1 ?side2 ?side3 ?side4 ?side5 ?side6 A10.out).mono ?_);(case side1=>exact Kd.C_below Jr.out (by repeat (first|(with_reducible first|exact HB.out|apply Q2|apply Q0|apply Q5|refine Q7 ?_ ZN.out|refine Q7 ?_ ZV.out)|exact HB.out)));(case side2=>exact JK.out);(case side3=>exact Kd.C_below Jz.out (by repeat (first|(with_reducible first|exact HB.out|apply Q2|apply Q0|apply Q5|refine Q7 ?_ ZN.out|refine Q7 ?_ ZV.out)|exact HB.out)));(case side4=>exact JL.out);(case side5=>exact Kd.C_below JA.out (by repeat (first|(with_reducible first|exact HB.out|apply Q2|apply Q0|apply Q5|refine Q7 ?_ ZN.out|refine Q7 ?_ ZV.out)|exact HB.out)));(case side6=>exact JM.out);rintro e w19 ⟨rfl,hb⟩;refine ⟨_,rfl,?_⟩;have n0_:=Q1.mk (Qf (g:=ZQ) (o:=.cells #[.slice Y4 Qb.length QG,.slice Y2 Qi.length QI,.slice Y7 Qd.length QJ,.int .i64 Yc,.int .i64 Yb] 39 (0,0)) (by (with_reducible repeat (first|refine Q4 ?_ _|refine Q6 ?_|refine Q3 ?_ _));refine Qm ?_ ZC.out _;(with_reducible repeat (first|refine Q4 ?_ _|refine Q6 ?_|refine Q3 ?_ _));refine Qm ?_ ZC.out _;(with_reducible repeat (first|refine Q4 ?_ _|refine Q6 ?_|refine Q3 ?_ _));refine Qm ?_ ZC.out _;(with_reducible repeat (first|refine Q4 ?_ _|refine Q6 ?_|refine Q3 ?_ _));refine Qm ?_ ZC.out _;(with_reducible repeat (first|refine Q4 ?_ _|refine Q6 ?_|refine Q3 ?_ _));refine Qm ?_ ZC.out _;(with_reducible repeat (first|refine Q4 ?_ _|refine Q6 ?_|refine Q3 ?_ _));exact YL.out) hb);have n1_:=Q1.mk (Qf (g:=YQ) (o:=.cells #[.slice Y4 Qb.length QG,.slice Y2 Qi.length QI,.slice Y7 Qd.length QJ,.int .i64 Yc,.int .i64 Yb] 111 (0,0)) (by (with_reducible repeat (first|refine Q4 ?_ _|refine Q6 ?_|refine Q3 ?_ _));refine Qv (cs:=#[.slice Y4 Qb.length QG,.slice Y2 Qi.length QI,.slice Y7 Qd.length QJ,.int .i64 Yc,.int .i64 0]) ?_ 4 _ rfl;(with_reducible repeat (first|refine Q4 ?_ _|refine Q6 ?_|refine Q3 ?_ _));refine Qv (cs:=#[.slice Y4 Qb.length QG,.slice Y2 Qi.length QI,.slice Y7 Qd.length QJ,.int .i64 0,.int .i64 0]) ?_ 3 _ rfl;(with_reducible repeat (first|refine Q4 ?_ _|refine Q6 ?_|refine Q3 ?_ _));refine Qv (cs:=#[.slice Y4 Qb.length QG,.slice Y2 Qi.length QI,.slice none 0 0,.int .i64 0,.int .i64 0]) ?_ 2 _ rfl;(with_reducible repeat (first|refine Q4 ?_ _|refine Q6 ?_|refine Q3 ?_ _));refine Qv (cs:=#[.slice Y4 Qb.length QG,.slice none 0 0,.slice none 0 0,.int .i64 0,.int .i64 0]) ?_ 1 _ rfl;(with_reducible repeat (first|refine Q4 ?_ _|refine Q6 ?_|refine Q3 ?_ _));refine Qv (cs:=#[.slice none 0 0,.slice none 0 0,.slice none 0 0,.int .i64 0,.int .i64 0]) ?_ 0 _ rfl;(with_reducible repeat (first|refine Q4 ?_ _|refine Q6 ?_|refine Q3 ?_ _));exact QZ.out) hb);have n2_:=Q1.mk (Qj (by repeat (first|(with_reducible first|exact HB.out|apply Q2|apply Q0|apply Q5|refine Q7 ?_ ZN.out|refine Q7 ?_ ZV.out)|exact HB.out)) hb);clear YL QZ HB;have YL:=n0_;have QZ:=n1_;have HB:=n2_;clear n0_ n1_ n2_;(try clear hb);(try clear hb2);(try clear hk);(try clear hi))|(go_at_call 65;(with_reducible refine (Ql.calls (l1.length:Int) 1 10 false _ A12.out).mono ?_);rintro e w' ⟨rfl,⟨nd,rfl⟩⟩))
   go_meet
   case rel=>exact ⟨_,(false),(by first|rfl|(simp;done)|(simp [*];done)),H',⟨by first|omega|exact Nat.le_refl _⟩,⟨by (with_reducible repeat (first|refine Q4 ?_ _|refine Q6 ?_|refine Q3 ?_ _));exact YL.out⟩,⟨by (with_reducible repeat (first|refine Q4 ?_ _|refine Q6 ?_|refine Q3 ?_ _));exact QZ.out⟩,⟨by repeat (first|(with_reducible first|exact HB.out|apply Q2|apply Q0|apply Q5|refine Q7 ?_ ZN.out|refine Q7 ?_ ZV.out)|exact HB.out)⟩⟩
  replace c11:=Bool.eq_false_iff.mpr c11
  subst c11
  have H1:(QC.j0 k l1 l2 false Qb Qi Qd Yc Yb)=some (r1,r2):=by rw [if_neg (show ¬ (false=true) by decide)] at H;exact H
  clear H
  have H:=H1
  clear H1
  have H':=Q1.mk H
  clear H
  have qrI:=Us.out
  have qrW:=ZC.out
  have Oc:w7.cell? ⟨YQ,0,none⟩=some (.slice none 0 0):=(Q8 QZ.out 0).trans rfl
  have Od:w7.cell? ⟨YQ,1,none⟩=some (.slice none 0 0):=(Q8 QZ.out 1).trans rfl
  have Oe:w7.cell? ⟨YQ,2,none⟩=some (.slice none 0 0):=(Q8 QZ.out 2).trans rfl
  have qbb:w7.cell? ⟨YQ,3,none⟩=some (.int .i64 0):=(Q8 QZ.out 3).trans rfl
  have qbc:w7.cell? ⟨YQ,4,none⟩=some (.int .i64 0):=(Q8 QZ.out 4).trans rfl
  have Oh:=Q9 QZ.out 0
  have Oi:=Q9 QZ.out 1
  have Oj:=Q9 QZ.out 2
  have qbm:=Q9 QZ.out 3
  have qbn:=Q9 QZ.out 4
  go_wp2_with (first|((with_reducible refine Qp (f:=76) rfl ?_);refine Yd (some 20) rfl rfl Try.func76 (by kernel_rfl) rfl #[.agg #[.slice Y4 Qb.length QG,.slice Y2 Qi.length QI,.slice Y7 Qd.length QJ,.int .i64 Yc,.int .i64 Yb]] rfl (by (try simp only [List.map_toArray,List.map_cons,List.map_nil]);first|done|rfl|(simp only [List.length_drop,List.length_take];rfl)) ?_;(with_reducible refine (Qn.calls k _ _ Qb _ _ Qi _ _ Qd Yc Yb false _ ?side1 ?side2 ?side3 ?side4 ?side5 ?side6 A10.out).mono ?_);(case side1=>exact Kd.C_below Jr.out (by repeat (first|(with_reducible first|exact HB.out|apply Q2|apply Q0|apply Q5|refine Q7 ?_ ZN.out|refine Q7 ?_ ZV.out)|exact HB.out)));(case side2=>exact JK.out);(case side3=>exact Kd.C_below Jz.out (by repeat (first|(with_reducible first|exact HB.out|apply Q2|apply Q0|apply Q5|refine Q7 ?_ ZN.out|refine Q7 ?_ ZV.out)|exact HB.out)));(case side4=>exact JL.out);(case side5=>exact Kd.C_below JA.out (by repeat (first|(with_reducible first|exact HB.out|apply Q2|apply Q0|apply Q5|refine Q7 ?_ ZN.out|refine Q7 ?_ ZV.out)|exact HB.out)));(case side6=>exact JM.out);rintro e w22 ⟨rfl,hb⟩;refine ⟨_,rfl,?_⟩;have n0_:=Q1.mk (Qf (g:=ZQ) (o:=.cells #[.slice Y4 Qb.length QG,.slice Y2 Qi.length QI,.slice Y7 Qd.length QJ,.int .i64 Yc,.int .i64 Yb] 39 (0,0)) (by (with_reducible repeat (first|refine Q4 ?_ _|refine Q6 ?_|refine Q3 ?_ _));refine Qm ?_ ZC.out _;(with_reducible repeat (first|refine Q4 ?_ _|refine Q6 ?_|refine Q3 ?_ _));refine Qm ?_ ZC.out _;(with_reducible repeat (first|refine Q4 ?_ _|refine Q6 ?_|refine Q3 ?_ _));refine Qm ?_ ZC.out _;(with_reducible repeat (first|refine Q4 ?_ _|refine Q6 ?_|refine Q3 ?_ _));refine Qm ?_ ZC.out _;(with_reducible repeat (first|refine Q4 ?_ _|refine Q6 ?_|refine Q3 ?_ _));refine Qm ?_ ZC.out _;(with_reducible repeat (first|refine Q4 ?_ _|refine Q6 ?_|refine Q3 ?_ _));exact YL.out) hb);have n1_:=Q1.mk (Qf (g:=YQ) (o:=.cells #[.slice Y4 Qb.length QG,.slice Y2 Qi.length QI,.slice Y7 Qd.length QJ,.int .i64 Yc,.int .i64 Yb] 111 (0,0)) (by (with_reducible repeat (first|refine Q4 ?_ _|refine Q6 ?_|refine Q3 ?_ _));refine Qv (cs:=#[.slice Y4 Qb.length QG,.slice Y2 Qi.length QI,.slice Y7 Qd.length QJ,.int .i64 Yc,.int .i64 0]) ?_ 4 _ rfl;(with_reducible repeat (first|refine Q4 ?_ _|refine Q6 ?_|refine Q3 ?_ _));refine Qv (cs:=#[.slice Y4 Qb.length QG,.slice Y2 Qi.length QI,.slice Y7 Qd.length QJ,.int .i64 0,.int .i64 0]) ?_ 3 _ rfl;(with_reducible repeat (first|refine Q4 ?_ _|refine Q6 ?_|refine Q3 ?_ _));refine Qv (cs:=#[.slice Y4 Qb.length QG,.slice Y2 Qi.length QI,.slice none 0 0,.int .i64 0,.int .i64 0]) ?_ 2 _ rfl;(with_reducible repeat (first|refine Q4 ?_ _|refine Q6 ?_|refine Q3 ?_ _));refine Qv (cs:=#[.slice Y4 Qb.length QG,.slice none 0 0,.slice none 0 0,.int .i64 0,.int .i64 0]) ?_ 1 _ rfl;(with_reducible repeat (first|refine Q4 ?_ _|refine Q6 ?_|refine Q3 ?_ _));refine Qv (cs:=#[.slice none 0 0,.slice none 0 0,.slice none 0 0,.int .i64 0,.int .i64 0]) ?_ 0 _ rfl;(with_reducible repeat (first|refine Q4 ?_ _|refine Q6 ?_|refine Q3 ?_ _));exact QZ.out) hb);have n2_:=Q1.mk (Qj (by repeat (first|(with_reducible first|exact HB.out|apply Q2|apply Q0|apply Q5|refine Q7 ?_ ZN.out|refine Q7 ?_ ZV.out)|exact HB.out)) hb);clear YL QZ HB;have YL:=n0_;have QZ:=n1_;have HB:=n2_;clear n0_ n1_ n2_;(try clear hb);(try clear hb2);(try clear hk);(try clear hi)))
  go_meet
  case rel=>exact ⟨_,(false),(by first|rfl|(simp;done)|(simp [*];done)),H',⟨by first|omega|exact Nat.le_refl _⟩,⟨by (with_reducible repeat (first|refine Q4 ?_ _|refine Q6 ?_|refine Q3 ?_ _));exact YL.out⟩,⟨by (with_reducible repeat (first|refine Q4 ?_ _|refine Q6 ?_|refine Q3 ?_ _));exact QZ.out⟩,⟨by repeat (first|(with_reducible first|exact HB.out|apply Q2|apply Q0|apply Q5|refine Q7 ?_ ZN.out|refine Q7 ?_ ZV.out)|exact HB.out)⟩⟩
 case rest =>
  clear HC4
  try clear c1
  try clear c2
  try clear p2
  try clear c7
  try clear c8
  try clear c11
  try clear c13
  try clear c14
  try clear c17
  try clear c20
  try clear Oa
  try clear Ob
  try clear OQ
  try clear OR
  try clear OS
  try clear OT
  try clear OU
  try clear OV
  try clear qa9
  try clear qba
  try clear Oc
  try clear Od
  try clear Oe
  try clear qbb
  try clear qbc
  try clear WW
  try clear WX
  try clear qaq
  try clear qdn
  try clear qdo
  try clear Kg
  try clear Kh
  try clear Ki
  try clear qdp
  try clear qdq
  try clear Of
  try clear Og
  try clear U2
  try clear U3
  try clear U4
  try clear U5
  try clear U6
  try clear U7
  try clear qbk
  try clear qbl
  try clear Oh
  try clear Oi
  try clear Oj
  try clear qbm
  try clear qbn
  try clear WY
  try clear WZ
  try clear qar
  try clear qdz
  try clear qdA
  try clear Kk
  try clear Kl
  try clear Km
  try clear qdB
  try clear qdC
  obtain ⟨kq,qna,rfl,HA,HJ3,YL,QZ,HB⟩:=hcut
  cases kq with
  | zero=>exact absurd HA.out (by simp [QC.j0])
  | succ kj3 =>
   have H:=HA.out
   clear HA
   simp only [QC.j0] at H
   have H':=Q1.mk H
   clear H
   go_wp2
   go_loopg [9,10] kj3 (fun kq v9 v10 w' => ∃ (qg2:Bool) (Zt:Int),v9 = .bool qg2∧v10 = .int .i64 Zt∧Q1 (QC.l0 kq l1 l2 qg2 Zt Qb Qi Qd Yc Yb=some (r1,r2))∧Q1 (kq≤kj3)∧Q1 (w'.heap[ZQ]? = some (.cells #[(.slice Y4 Qb.length QG),(.slice Y2 Qi.length QI),(.slice Y7 Qd.length QJ),.int .i64 Yc,.int .i64 Yb] 39 (0,0)))∧Q1 (w'.heap[YQ]? = some (.cells #[(.slice Y4 Qb.length QG),(.slice Y2 Qi.length QI),(.slice Y7 Qd.length QJ),.int .i64 Yc,.int .i64 Yb] 111 (0,0)))∧Q1 (Below w.heap.size w w'))
   case atStart=>exact ⟨(qna),(0),(by first|rfl|(simp;done)|(simp [*];done)),(by first|rfl|(simp;done)|(simp [*];done)),H',⟨Nat.le_refl _⟩,⟨by (with_reducible repeat (first|refine Q4 ?_ _|refine Q6 ?_|refine Q3 ?_ _));exact YL.out⟩,⟨by (with_reducible repeat (first|refine Q4 ?_ _|refine Q6 ?_|refine Q3 ?_ _));exact QZ.out⟩,⟨by repeat (first|(with_reducible first|exact HB.out|apply Q2|apply Q0|apply Q5|refine Q7 ?_ ZN.out|refine Q7 ?_ ZV.out)|exact HB.out)⟩⟩
   case round =>
    clear H';(try clear c1);(try clear c2);(try clear p2);(try clear c7);(try clear c8);(try clear c11);(try clear c13);(try clear c14);(try clear c17);(try clear c20);(try clear Oa);(try clear Ob);(try clear OQ);(try clear OR);(try clear OS);(try clear OT);(try clear OU);(try clear OV);(try clear qa9);(try clear qba);(try clear Oc);(try clear Od);(try clear Oe);(try clear qbb);(try clear qbc);(try clear WW);(try clear WX);(try clear qaq);(try clear qdn);(try clear qdo);(try clear Kg);(try clear Kh);(try clear Ki);(try clear qdp);(try clear qdq);(try clear Of);(try clear Og);(try clear U2);(try clear U3);(try clear U4);(try clear U5);(try clear U6);(try clear U7);(try clear qbk);(try clear qbl);(try clear Oh);(try clear Oi);(try clear Oj);(try clear qbm);(try clear qbn);(try clear WY);(try clear WZ);(try clear qar);(try clear qdz);(try clear qdA);(try clear Kk);(try clear Kl);(try clear Km);(try clear qdB);(try clear qdC);(try clear p2);obtain ⟨qg2,Zt,rfl,rfl,HA,HK2,YL,QZ,HB⟩:=hrel
    cases gk with
    | zero=>exact absurd HA.out (by simp [QC.l0])
    | succ k2 =>
     have H:=HA.out;clear HA;simp only [QC.l0] at H;have qfP:=Q1.mk H;clear H
     go_upto_region 4 with (fail)
     go_cut [39] (fun v39 wc => ∃ (kq:Nat) (qed:Bool),v39 = .bool qed∧Q1 (QC.j2 kq l1 l2 qg2 Zt qed Qb Qi Qd Yc Yb=some (r1,r2))∧Q1 (kq≤k2)∧Q1 (wc.heap[ZQ]? = some (.cells #[(.slice Y4 Qb.length QG),(.slice Y2 Qi.length QI),(.slice Y7 Qd.length QJ),.int .i64 Yc,.int .i64 Yb] 39 (0,0)))∧Q1 (wc.heap[YQ]? = some (.cells #[(.slice Y4 Qb.length QG),(.slice Y2 Qi.length QI),(.slice Y7 Qd.length QJ),.int .i64 Yc,.int .i64 Yb] 111 (0,0)))∧Q1 (Below w.heap.size w wc))
     case first =>
      have H:=qfP.out;clear qfP
      by_cases c24:qg2=true
      ·
       subst c24
       have H1:(QC.j2 k2 l1 l2 true Zt (decide (Zt<(l1.length:Int))) Qb Qi Qd Yc Yb)=some (r1,r2):=by rw [if_pos rfl] at H;exact H
       clear H;have H:=H1;clear H1;have H':=Q1.mk H;clear H
       go_wp2
       go_meet
       case rel=>exact ⟨_,(decide (Zt<(l1.length:Int))),(by first|rfl|(simp;done)|(simp [*];done)),H',⟨by have:=HJ3.out;have:=HK2.out;first|omega|exact Nat.le_refl _⟩,⟨by (with_reducible repeat (first|refine Q4 ?_ _|refine Q6 ?_|refine Q3 ?_ _));exact YL.out⟩,⟨by (with_reducible repeat (first|refine Q4 ?_ _|refine Q6 ?_|refine Q3 ?_ _));exact QZ.out⟩,⟨by repeat (first|(with_reducible first|exact HB.out|apply Q2|apply Q0|apply Q5|refine Q7 ?_ ZN.out|refine Q7 ?_ ZV.out)|exact HB.out)⟩⟩
      replace c24:=Bool.eq_false_iff.mpr c24;subst c24
      have H1:(QC.j2 k2 l1 l2 false Zt false Qb Qi Qd Yc Yb)=some (r1,r2):=by rw [if_neg (show ¬ (false=true) by decide)] at H;exact H
      clear H;have H:=H1;clear H1;have H':=Q1.mk H;clear H
      go_wp2
      go_meet
      case rel=>exact ⟨_,(false),(by first|rfl|(simp;done)|(simp [*];done)),H',⟨by have:=HJ3.out;have:=HK2.out;first|omega|exact Nat.le_refl _⟩,⟨by (with_reducible repeat (first|refine Q4 ?_ _|refine Q6 ?_|refine Q3 ?_ _));exact YL.out⟩,⟨by (with_reducible repeat (first|refine Q4 ?_ _|refine Q6 ?_|refine Q3 ?_ _));exact QZ.out⟩,⟨by repeat (first|(with_reducible first|exact HB.out|apply Q2|apply Q0|apply Q5|refine Q7 ?_ ZN.out|refine Q7 ?_ ZV.out)|exact HB.out)⟩⟩
     case rest =>
      clear qfP;(try clear c1);(try clear c2);(try clear p2);(try clear c7);(try clear c8);(try clear c11);(try clear c13);(try clear c14);(try clear c17);(try clear c20);(try clear c24);(try clear Oa);(try clear Ob);(try clear OQ);(try clear OR);(try clear OS);(try clear OT);(try clear OU);(try clear OV);(try clear qa9);(try clear qba);(try clear Oc);(try clear Od);(try clear Oe);(try clear qbb);(try clear qbc);(try clear WW);(try clear WX);(try clear qaq);(try clear qdn);(try clear qdo);(try clear Kg);(try clear Kh);(try clear Ki);(try clear qdp);(try clear qdq);(try clear Of);(try clear Og);(try clear U2);(try clear U3);(try clear U4);(try clear U5);(try clear U6);(try clear U7);(try clear qbk);(try clear qbl);(try clear Oh);(try clear Oi);(try clear Oj);(try clear qbm);(try clear qbn);(try clear WY);(try clear WZ);(try clear qar);(try clear qdz);(try clear qdA);(try clear Kk);(try clear Kl);(try clear Km);(try clear qdB);(try clear qdC);(try clear p2);obtain ⟨kq,qed,rfl,HA,Ui,YL,QZ,HB⟩:=hcut
      cases kq with
      | zero=>exact absurd HA.out (by simp [QC.j2])
      | succ W4 =>
       have H:=HA.out;clear HA;simp only [QC.j2] at H
       by_cases c25:qed=true
       ·
        subst c25
        have H1:(if 0≤Zt then (if Zt<(l1.length:Int) then ((Ql.f (rd l1 Zt) 0 100000000).bind fun t159=>(if t159=true then (if Zt<(l2.length:Int) then ((Ql.f (rd l2 Zt) 0 100000).bind fun qca=>(QC.l0 W4 l1 l2 qca (wrap64 (Zt+1)) Qb Qi Qd Yc Yb)) else (none)) else (QC.l0 W4 l1 l2 false (wrap64 (Zt+1)) Qb Qi Qd Yc Yb))) else (none)) else (none))=some (r1,r2):=by rw [if_pos rfl] at H;exact H
        clear H;have H:=H1;clear H1
        by_cases c26:0≤Zt
        ·
         rw [if_pos c26] at H;have c26b0:decide (0≤Zt)=true:=decide_eq_true c26;clear c26
         by_cases c27:Zt<(l1.length:Int)
         ·
          rw [if_pos c27] at H;have c27b0:decide (Zt<(l1.length:Int))=true:=decide_eq_true c27;clear c27;replace H:=Option.bind_eq_some_iff.mp H;obtain ⟨t159,qi5,H⟩:=H;replace H:(if t159=true then (if Zt<(l2.length:Int) then ((Ql.f (rd l2 Zt) 0 100000).bind fun qca=>(QC.l0 W4 l1 l2 qca (wrap64 (Zt+1)) Qb Qi Qd Yc Yb)) else (none)) else (QC.l0 W4 l1 l2 false (wrap64 (Zt+1)) Qb Qi Qd Yc Yb))=some (r1,r2):=H;have A28:=Q1.mk qi5;clear qi5
          by_cases c29:t159=true
          ·
           subst c29
           have H1:(if Zt<(l2.length:Int) then ((Ql.f (rd l2 Zt) 0 100000).bind fun qca=>(QC.l0 W4 l1 l2 qca (wrap64 (Zt+1)) Qb Qi Qd Yc Yb)) else (none))=some (r1,r2):=by rw [if_pos rfl] at H;exact H
           clear H;have H:=H1;clear H1
           by_cases c30:Zt<(l2.length:Int)
           ·
            rw [if_pos c30] at H;have c30b0:decide (Zt<(l2.length:Int))=true:=decide_eq_true c30;clear c30;replace H:=Option.bind_eq_some_iff.mp H;obtain ⟨qca,qpu,H⟩:=H;replace H:(QC.l0 W4 l1 l2 qca (wrap64 (Zt+1)) Qb Qi Qd Yc Yb)=some (r1,r2):=H;have A31:=Q1.mk qpu;clear qpu;have H':=Q1.mk H;clear H;have qfd:0≤(Zt:Int):=of_decide_eq_true (by first|(with_reducible assumption)|assumption);have qff:Zt<(l1.length:Int):=of_decide_eq_true (by first|(with_reducible assumption)|assumption);obtain ⟨qp5,qor,U8⟩:=Kd.at_int HR1.out Zt qfd qff;cases qor;replace U8:=(HB.out.cell (World.block_lt_of_cell? w _ U8)).trans U8;replace qfd:=eq_true qfd;replace qff:=eq_true qff
            go_wp2_with (first|((with_reducible refine Qp (f:=65) rfl ?_);refine Yd (some 46) rfl rfl Try.func65 (by kernel_rfl) rfl #[.int .i64 (rd l1 Zt),.int .i64 0,.int .i64 100000000] rfl (by (try simp only [List.map_toArray,List.map_cons,List.map_nil]);first|done|rfl|(simp only [List.length_drop,List.length_take];rfl)) ?_;(with_reducible refine (Ql.calls (rd l1 Zt) 0 100000000 true _ A28.out).mono ?_);rintro e w' ⟨rfl,⟨nd,rfl⟩⟩;refine ⟨_,rfl,?_⟩;have qmG:0≤(Zt:Int):=of_decide_eq_true (by first|(with_reducible assumption)|assumption);have qmN:Zt<(l2.length:Int):=of_decide_eq_true (by first|(with_reducible assumption)|assumption);obtain ⟨qAr,qyU,qbz⟩:=Kd.at_int HR2.out Zt qmG qmN;cases qyU;replace qbz:=(HB.out.cell (World.block_lt_of_cell? w _ qbz)).trans qbz;replace qmG:=eq_true qmG;replace qmN:=eq_true qmN)|(go_at_call 65;(with_reducible refine (Ql.calls (rd l2 Zt) 0 100000 qca _ A31.out).mono ?_);rintro e w' ⟨rfl,⟨nd,rfl⟩⟩))
            go_roundg W4
            case measure=>have:=HJ3.out;have:=HK2.out;have:=Ui.out;omega
            case rel=>exact ⟨(qca),(wrap64 (Zt+1)),(by first|rfl|(simp;done)|(simp [*];done)),(by first|rfl|(simp;done)|(simp [*];done)),H',⟨by have:=HJ3.out;have:=HK2.out;have:=Ui.out;omega⟩,⟨by (with_reducible repeat (first|refine Q4 ?_ _|refine Q6 ?_|refine Q3 ?_ _));exact YL.out⟩,⟨by (with_reducible repeat (first|refine Q4 ?_ _|refine Q6 ?_|refine Q3 ?_ _));exact QZ.out⟩,⟨by repeat (first|(with_reducible first|exact HB.out|apply Q2|apply Q0|apply Q5|refine Q7 ?_ ZN.out|refine Q7 ?_ ZV.out)|exact HB.out)⟩⟩
           rw [if_neg c30] at H
           exact absurd H (by simp)
          replace c29:=Bool.eq_false_iff.mpr c29;subst c29
          have H1:(QC.l0 W4 l1 l2 false (wrap64 (Zt+1)) Qb Qi Qd Yc Yb)=some (r1,r2):=by rw [if_neg (show ¬ (false=true) by decide)] at H;exact H
          clear H;have H:=H1;clear H1;have H':=Q1.mk H;clear H;have qfd:0≤(Zt:Int):=of_decide_eq_true (by first|(with_reducible assumption)|assumption);have qff:Zt<(l1.length:Int):=of_decide_eq_true (by first|(with_reducible assumption)|assumption);obtain ⟨qp5,qor,U8⟩:=Kd.at_int HR1.out Zt qfd qff;cases qor;replace U8:=(HB.out.cell (World.block_lt_of_cell? w _ U8)).trans U8;replace qfd:=eq_true qfd;replace qff:=eq_true qff
          go_wp2_with (first|((with_reducible refine Qp (f:=65) rfl ?_);refine Yd (some 46) rfl rfl Try.func65 (by kernel_rfl) rfl #[.int .i64 (rd l1 Zt),.int .i64 0,.int .i64 100000000] rfl (by (try simp only [List.map_toArray,List.map_cons,List.map_nil]);first|done|rfl|(simp only [List.length_drop,List.length_take];rfl)) ?_;(with_reducible refine (Ql.calls (rd l1 Zt) 0 100000000 false _ A28.out).mono ?_);rintro e w' ⟨rfl,⟨nd,rfl⟩⟩;refine ⟨_,rfl,?_⟩))
          go_roundg W4
          case measure=>have:=HJ3.out;have:=HK2.out;have:=Ui.out;omega
          case rel=>exact ⟨(false),(wrap64 (Zt+1)),(by first|rfl|(simp;done)|(simp [*];done)),(by first|rfl|(simp;done)|(simp [*];done)),H',⟨by have:=HJ3.out;have:=HK2.out;have:=Ui.out;omega⟩,⟨by (with_reducible repeat (first|refine Q4 ?_ _|refine Q6 ?_|refine Q3 ?_ _));exact YL.out⟩,⟨by (with_reducible repeat (first|refine Q4 ?_ _|refine Q6 ?_|refine Q3 ?_ _));exact QZ.out⟩,⟨by repeat (first|(with_reducible first|exact HB.out|apply Q2|apply Q0|apply Q5|refine Q7 ?_ ZN.out|refine Q7 ?_ ZV.out)|exact HB.out)⟩⟩
         rw [if_neg c27] at H
         exact absurd H (by simp)
        rw [if_neg c26] at H
        exact absurd H (by simp)
       replace c25:=Bool.eq_false_iff.mpr c25;subst c25
       have H1:(if qg2=true then ((Z4.f Qb Qi Qd Yc Yb).bind fun Kp=>(QC.l1 W4 l1 l2 ([]:List Int) (l1.length:Int) 0 Qb Qi Qd Yc Yb Kp.1 Kp.2.1 Kp.2.2.1 Kp.2.2.2.1 Kp.2.2.2.2.1 Kp.2.2.2.2.2)) else (some (([]:List Int),92)))=some (r1,r2):=by rw [if_neg (show ¬ (false=true) by decide)] at H;exact H
       clear H;have H:=H1;clear H1
       by_cases c32:qg2=true
       ·
        subst c32
        have H1:((Z4.f Qb Qi Qd Yc Yb).bind fun Kp=>(QC.l1 W4 l1 l2 ([]:List Int) (l1.length:Int) 0 Qb Qi Qd Yc Yb Kp.1 Kp.2.1 Kp.2.2.1 Kp.2.2.2.1 Kp.2.2.2.2.1 Kp.2.2.2.2.2))=some (r1,r2):=by rw [if_pos rfl] at H;exact H
        clear H;have H:=H1;clear H1;replace H:=Option.bind_eq_some_iff.mp H;obtain ⟨⟨t162,qgT,t164,qkt,qmW,t167⟩,qpw,H⟩:=H;replace H:(QC.l1 W4 l1 l2 ([]:List Int) (l1.length:Int) 0 Qb Qi Qd Yc Yb t162 qgT t164 qkt qmW t167)=some (r1,r2):=H;have A33:=Q1.mk qpw;clear qpw;have H':=Q1.mk H;clear H;have qA3:=Us.out;have qBF:=ZC.out;have qlk:wc.cell? ⟨YQ,0,none⟩=some (.slice Y4 Qb.length QG):=(Q8 QZ.out 0).trans rfl;have qll:wc.cell? ⟨YQ,1,none⟩=some (.slice Y2 Qi.length QI):=(Q8 QZ.out 1).trans rfl;have qlm:wc.cell? ⟨YQ,2,none⟩=some (.slice Y7 Qd.length QJ):=(Q8 QZ.out 2).trans rfl;have qln:wc.cell? ⟨YQ,3,none⟩=some (.int .i64 Yc):=(Q8 QZ.out 3).trans rfl;have qlo:wc.cell? ⟨YQ,4,none⟩=some (.int .i64 Yb):=(Q8 QZ.out 4).trans rfl;have qlW:=Q9 QZ.out 0;have qlX:=Q9 QZ.out 1;have qlY:=Q9 QZ.out 2;have qlZ:=Q9 QZ.out 3;have ql0:=Q9 QZ.out 4
        go_wp2_with (first|((with_reducible refine Qp (f:=78) rfl ?_);refine Yd (some 57) rfl rfl Try.func78 (by kernel_rfl) rfl #[.agg #[.slice Y4 Qb.length QG,.slice Y2 Qi.length QI,.slice Y7 Qd.length QJ,.int .i64 Yc,.int .i64 Yb]] rfl (by (try simp only [List.map_toArray,List.map_cons,List.map_nil]);first|done|rfl|(simp only [List.length_drop,List.length_take];rfl)) ?_;(with_reducible refine (Z4.calls _ _ Qb _ _ Qi _ _ Qd Yc Yb t162 qgT t164 qkt qmW t167 _ ?side1 ?side2 ?side3 ?side4 ?side5 ?side6 A33.out).mono ?_);(case side1=>repeat (first|exact (Kd.C_below Jr.out HB.out)|(with_reducible refine Kd.C_alloc ?_ _)|(with_reducible refine Kd.C_drewN ?_ _)|(with_reducible refine Kd.C_drew ?_)));(case side2=>exact JK.out);(case side3=>repeat (first|exact (Kd.C_below Jz.out HB.out)|(with_reducible refine Kd.C_alloc ?_ _)|(with_reducible refine Kd.C_drewN ?_ _)|(with_reducible refine Kd.C_drew ?_)));(case side4=>exact JL.out);(case side5=>repeat (first|exact (Kd.C_below JA.out HB.out)|(with_reducible refine Kd.C_alloc ?_ _)|(with_reducible refine Kd.C_drewN ?_ _)|(with_reducible refine Kd.C_drew ?_)));(case side6=>exact JM.out);rintro e w36 ⟨rfl,hb⟩;refine ⟨_,rfl,?_⟩;have n0_:=Q1.mk (Qf (g:=ZQ) (by (with_reducible repeat (first|refine Q4 ?_ _|refine Q6 ?_|refine Q3 ?_ _));exact YL.out) hb);have n1_:=Q1.mk (Qf (g:=YQ) (by (with_reducible repeat (first|refine Q4 ?_ _|refine Q6 ?_|refine Q3 ?_ _));exact QZ.out) hb);have n2_:=Q1.mk (Qj (by repeat (first|(with_reducible first|exact HB.out|apply Q2|apply Q0|apply Q5|refine Q7 ?_ ZN.out|refine Q7 ?_ ZV.out)|exact HB.out)) hb);clear YL QZ HB;have YL:=n0_;have QZ:=n1_;have HB:=n2_;clear n0_ n1_ n2_;(try clear hb);(try clear hb2);(try clear hk);(try clear hi))|((with_reducible refine Y0 (N:=12) rfl ?_);(try (refine Ke (by rfl) ?_;dsimp only));refine Yv ?hg (N:=12) ?hd (cs:=#[.int .i64 0,.int .i64 0,.int .i64 0,.int .i64 0,.int .i64 0,.int .i64 0]) (t:=115) ?hr ?_;(case hd=>rfl);(case hg=>rfl);(case hr=>first|(go_simp;done)|(go_simp;rfl));intro Yp hg w37 hbox hb;have n0_:=Q1.mk (Qf (g:=ZQ) (by (with_reducible repeat (first|refine Q4 ?_ _|refine Q6 ?_|refine Q3 ?_ _));exact YL.out) hb);have n1_:=Q1.mk (Qf (g:=YQ) (by (with_reducible repeat (first|refine Q4 ?_ _|refine Q6 ?_|refine Q3 ?_ _));exact QZ.out) hb);have n2_:=Q1.mk (Qj (by repeat (first|(with_reducible first|exact HB.out|apply Q2|apply Q0|apply Q5|refine Q7 ?_ ZN.out|refine Q7 ?_ ZV.out)|exact HB.out)) hb);have n3_:=Q1.mk (hbox);have n4_:=Q1.mk ((by rw [hg];exact (Qe (by repeat (first|(with_reducible first|exact HB.out|apply Q2|apply Q0|apply Q5|refine Q7 ?_ ZN.out|refine Q7 ?_ ZV.out)|exact HB.out))):w.heap.size≤Yp));have n5_:=n4_;have n6_:=Q1.mk ((by rw [hg];exact Nat.ne_of_lt (QL (g:=ZQ) (by (with_reducible repeat (first|refine Q4 ?_ _|refine Q6 ?_|refine Q3 ?_ _));exact YL.out)):ZQ≠Yp));have n7_:=Q1.mk (n6_.out.symm);have n8_:=Q1.mk ((by rw [hg];exact Nat.ne_of_lt (QL (g:=YQ) (by (with_reducible repeat (first|refine Q4 ?_ _|refine Q6 ?_|refine Q3 ?_ _));exact QZ.out)):YQ≠Yp));have n9_:=Q1.mk (n8_.out.symm);clear YL QZ HB;have YL:=n0_;have QZ:=n1_;have HB:=n2_;have Yx:=n3_;have qAf:=n4_;have O3:=n5_;have ZI:=n6_;have KI:=n7_;have ZJ:=n8_;have KJ:=n9_;clear n0_ n1_ n2_ n3_ n4_ n5_ n6_ n7_ n8_ n9_ hb hbox hg;have qA5:=KI.out;have qBH:=ZI.out;have qnR:=KJ.out;have qnS:=ZJ.out;have qbd:w37.cell? ⟨Yp,0,none⟩=some (.int .i64 0):=(Q8 Yx.out 0).trans rfl;have qbe:w37.cell? ⟨Yp,1,none⟩=some (.int .i64 0):=(Q8 Yx.out 1).trans rfl;have qbf:w37.cell? ⟨Yp,2,none⟩=some (.int .i64 0):=(Q8 Yx.out 2).trans rfl;have qlv:w37.cell? ⟨Yp,3,none⟩=some (.int .i64 0):=(Q8 Yx.out 3).trans rfl;have qlw:w37.cell? ⟨Yp,4,none⟩=some (.int .i64 0):=(Q8 Yx.out 4).trans rfl;have qlx:w37.cell? ⟨Yp,5,none⟩=some (.int .i64 0):=(Q8 Yx.out 5).trans rfl;have qbo:=Q9 Yx.out 0;have qbp:=Q9 Yx.out 1;have qbq:=Q9 Yx.out 2;have ql7:=Q9 Yx.out 3;have ql8:=Q9 Yx.out 4;have ql9:=Q9 Yx.out 5))
        go_loopg [13,60] W4 (fun kq v13 v60 w' => ∃ (G6:List Int) (J0:Int) (Zo:Int) (Zf:Int) (Zc:Int) (Z5:Int) (Z1:Int) (YW:Int),v60 = .int .i64 J0∧Q1 (QC.l1 kq l1 l2 G6 (l1.length:Int) J0 Qb Qi Qd Yc Yb Zo Zf Zc Z5 Z1 YW=some (r1,r2))∧Q1 (kq≤W4)∧Q1 (Kd.R (Kd.int .i64) 3 w' w.heap.size (fun k_=>(w.heap.size≤k_)) v13 G6)∧Q1 (w'.heap[ZQ]? = some (.cells #[(.slice Y4 Qb.length QG),(.slice Y2 Qi.length QI),(.slice Y7 Qd.length QJ),.int .i64 Yc,.int .i64 Yb] 39 (0,0)))∧Q1 (w'.heap[YQ]? = some (.cells #[(.slice Y4 Qb.length QG),(.slice Y2 Qi.length QI),(.slice Y7 Qd.length QJ),.int .i64 Yc,.int .i64 Yb] 111 (0,0)))∧Q1 (w'.heap[Yp]? = some (.cells #[.int .i64 Zo,.int .i64 Zf,.int .i64 Zc,.int .i64 Z5,.int .i64 Z1,.int .i64 YW] 115 (0,0)))∧Q1 (Below w.heap.size w w'))
        case atStart=>exact ⟨(([]:List Int)),(0),(t162),(qgT),(t164),(qkt),(qmW),(t167),(by first|rfl|(simp;done)|(simp [*];done)),H',⟨Nat.le_refl _⟩,⟨by first|exact Kd.R_nil _ _ _ _ _|exact Kd.N_nil _ _ _ _ _|exact Kd.V_nil _ _ _ _ _|exact Kd.Q_nil _ _ _ _ _|exact Kd.S_nil _ _ _ _ _⟩,⟨by (with_reducible repeat (first|refine Q4 ?_ _|refine Q6 ?_|refine Q3 ?_ _));refine Qm ?_ ZI.out _;(with_reducible repeat (first|refine Q4 ?_ _|refine Q6 ?_|refine Q3 ?_ _));refine Qm ?_ ZI.out _;(with_reducible repeat (first|refine Q4 ?_ _|refine Q6 ?_|refine Q3 ?_ _));refine Qm ?_ ZI.out _;(with_reducible repeat (first|refine Q4 ?_ _|refine Q6 ?_|refine Q3 ?_ _));refine Qm ?_ ZI.out _;(with_reducible repeat (first|refine Q4 ?_ _|refine Q6 ?_|refine Q3 ?_ _));refine Qm ?_ ZI.out _;(with_reducible repeat (first|refine Q4 ?_ _|refine Q6 ?_|refine Q3 ?_ _));refine Qm ?_ ZI.out _;(with_reducible repeat (first|refine Q4 ?_ _|refine Q6 ?_|refine Q3 ?_ _));exact YL.out⟩,⟨by (with_reducible repeat (first|refine Q4 ?_ _|refine Q6 ?_|refine Q3 ?_ _));refine Qm ?_ ZJ.out _;(with_reducible repeat (first|refine Q4 ?_ _|refine Q6 ?_|refine Q3 ?_ _));refine Qm ?_ ZJ.out _;(with_reducible repeat (first|refine Q4 ?_ _|refine Q6 ?_|refine Q3 ?_ _));refine Qm ?_ ZJ.out _;(with_reducible repeat (first|refine Q4 ?_ _|refine Q6 ?_|refine Q3 ?_ _));refine Qm ?_ ZJ.out _;(with_reducible repeat (first|refine Q4 ?_ _|refine Q6 ?_|refine Q3 ?_ _));refine Qm ?_ ZJ.out _;(with_reducible repeat (first|refine Q4 ?_ _|refine Q6 ?_|refine Q3 ?_ _));refine Qm ?_ ZJ.out _;(with_reducible repeat (first|refine Q4 ?_ _|refine Q6 ?_|refine Q3 ?_ _));exact QZ.out⟩,⟨by (with_reducible repeat (first|refine Q4 ?_ _|refine Q6 ?_|refine Q3 ?_ _));refine Qv (cs:=#[.int .i64 t162,.int .i64 qgT,.int .i64 t164,.int .i64 qkt,.int .i64 qmW,.int .i64 0]) ?_ 5 _ rfl;(with_reducible repeat (first|refine Q4 ?_ _|refine Q6 ?_|refine Q3 ?_ _));refine Qv (cs:=#[.int .i64 t162,.int .i64 qgT,.int .i64 t164,.int .i64 qkt,.int .i64 0,.int .i64 0]) ?_ 4 _ rfl;(with_reducible repeat (first|refine Q4 ?_ _|refine Q6 ?_|refine Q3 ?_ _));refine Qv (cs:=#[.int .i64 t162,.int .i64 qgT,.int .i64 t164,.int .i64 0,.int .i64 0,.int .i64 0]) ?_ 3 _ rfl;(with_reducible repeat (first|refine Q4 ?_ _|refine Q6 ?_|refine Q3 ?_ _));refine Qv (cs:=#[.int .i64 t162,.int .i64 qgT,.int .i64 0,.int .i64 0,.int .i64 0,.int .i64 0]) ?_ 2 _ rfl;(with_reducible repeat (first|refine Q4 ?_ _|refine Q6 ?_|refine Q3 ?_ _));refine Qv (cs:=#[.int .i64 t162,.int .i64 0,.int .i64 0,.int .i64 0,.int .i64 0,.int .i64 0]) ?_ 1 _ rfl;(with_reducible repeat (first|refine Q4 ?_ _|refine Q6 ?_|refine Q3 ?_ _));refine Qv (cs:=#[.int .i64 0,.int .i64 0,.int .i64 0,.int .i64 0,.int .i64 0,.int .i64 0]) ?_ 0 _ rfl;(with_reducible repeat (first|refine Q4 ?_ _|refine Q6 ?_|refine Q3 ?_ _));exact Yx.out⟩,⟨by repeat (first|(with_reducible first|exact HB.out|apply Q2|apply Q0|apply Q5|refine Q7 ?_ ZN.out|refine Q7 ?_ ZV.out|refine Q7 ?_ O3.out)|exact HB.out)⟩⟩
        case round =>
         clear H';(try clear c1);(try clear p1);(try clear q1);(try clear hx1);(try clear c2);(try clear p2);(try clear c3);(try clear c6);(try clear p6);(try clear c7);(try clear c8);(try clear c11);(try clear c13);(try clear c14);(try clear p15);(try clear q15);(try clear qC8);(try clear p16);(try clear q16);(try clear hx16);(try clear c17);(try clear c20);(try clear c24);(try clear c25);(try clear c26);(try clear c26b0);(try clear c27);(try clear c27b0);(try clear c29);(try clear c30);(try clear c30b0);(try clear c32);(try clear c34);(try clear c38);(try clear c39);(try clear Oa);(try clear Ob);(try clear OQ);(try clear OR);(try clear OS);(try clear OT);(try clear OU);(try clear OV);(try clear qa9);(try clear qba);(try clear Oc);(try clear Od);(try clear Oe);(try clear qbb);(try clear qbc);(try clear qlk);(try clear qll);(try clear qlm);(try clear qln);(try clear qlo);(try clear qbd);(try clear qbe);(try clear qbf);(try clear qlv);(try clear qlw);(try clear qlx);(try clear WW);(try clear WX);(try clear qaq);(try clear qdn);(try clear qdo);(try clear Kg);(try clear Kh);(try clear Ki);(try clear qdp);(try clear qdq);(try clear Of);(try clear Og);(try clear U2);(try clear U3);(try clear U4);(try clear U5);(try clear U6);(try clear U7);(try clear qbk);(try clear qbl);(try clear Oh);(try clear Oi);(try clear Oj);(try clear qbm);(try clear qbn);(try clear qlW);(try clear qlX);(try clear qlY);(try clear qlZ);(try clear ql0);(try clear qbo);(try clear qbp);(try clear qbq);(try clear ql7);(try clear ql8);(try clear ql9);(try clear WY);(try clear WZ);(try clear qar);(try clear qdz);(try clear qdA);(try clear Kk);(try clear Kl);(try clear Km);(try clear qdB);(try clear qdC);(try clear U8);(try clear qbz);(try clear qfd);(try clear qmG);(try clear p2);(try clear qff);(try clear qmN);obtain ⟨G6,J0,Zo,Zf,Zc,Z5,Z1,YW,rfl,HA,HK4,HO_13,YL,QZ,Yx,HB⟩:=hrel
         cases gk with
         | zero=>exact absurd HA.out (by simp [QC.l1])
         | succ k4 =>
          have H:=HA.out;clear HA;simp only [QC.l1] at H
          by_cases c41:J0<(l1.length:Int)
          ·
           rw [if_pos c41] at H;have c41b0:decide (J0<(l1.length:Int))=true:=decide_eq_true c41;clear c41
           by_cases c42:0≤J0
           ·
            rw [if_pos c42] at H;have c42b0:decide (0≤J0)=true:=decide_eq_true c42;clear c42
            by_cases c43:J0<(l1.length:Int)
            ·
             rw [if_pos c43] at H;have c43b0:decide (J0<(l1.length:Int))=true:=decide_eq_true c43;clear c43
             by_cases c44:J0<(l2.length:Int)
             ·
              rw [if_pos c44] at H;have c44b0:decide (J0<(l2.length:Int))=true:=decide_eq_true c44;clear c44;replace H:=Option.bind_eq_some_iff.mp H;obtain ⟨⟨t171,Ks,t173,O6,t175,OC,UB⟩,qi6,H⟩:=H;replace H:(if G6.length<17592186044416 then (QC.l1 k4 l1 l2 (G6++[t171]) (l1.length:Int) (wrap64 (J0+1)) Qb Qi Qd Yc Yb Ks t173 O6 t175 OC UB) else (none))=some (r1,r2):=H;have A45:=Q1.mk qi6;clear qi6
              by_cases c46:G6.length<17592186044416
              ·
               rw [if_pos c46] at H;have qpU:=Q1.mk c46;clear c46;obtain ⟨qsj,qeI⟩:∃ y_:List Int,y_=(G6++[t171]):=⟨_,rfl⟩
               replace H:(QC.l1 k4 l1 l2 qsj (l1.length:Int) (wrap64 (J0+1)) Qb Qi Qd Yc Yb Ks t173 O6 t175 OC UB)=some (r1,r2):=by first|(rw [qeI];with_reducible exact H)|(have H2_:=(Option.bind_some _ _).symm.trans H;rw [qeI];with_reducible exact H2_)|(have H2_:=(Option.bind_some _ _).symm.trans H;with_reducible exact H2_)|with_reducible exact H|(rw [qeI];exact H)|exact H
               have qpV:=Q1.mk qeI;clear qeI;have H':=Q1.mk H;clear H
               try go_wp2
               have n0_:=Q1.mk (Kd.R_drew HO_13.out);have n1_:=Q1.mk (Q6 YL.out);have n2_:=Q1.mk (Q6 QZ.out);have n3_:=Q1.mk (Q6 Yx.out);have n4_:=Q1.mk (Q5 HB.out);clear HO_13 YL QZ Yx HB;have HO_13:=n0_;have YL:=n1_;have QZ:=n2_;have Yx:=n3_;have HB:=n4_;clear n0_ n1_ n2_ n3_ n4_;have qo0:0≤(J0:Int):=of_decide_eq_true (by first|(with_reducible assumption)|assumption);have qpa:J0<(l1.length:Int):=of_decide_eq_true (by first|(with_reducible assumption)|assumption);obtain ⟨qjp,e169,XQ⟩:=Kd.at_int HR1.out J0 qo0 qpa;have Zk:=XQ;cases e169;replace XQ:=(HB.out.cell (World.block_lt_of_cell? w _ XQ)).trans XQ;replace qo0:=eq_true qo0;replace qpa:=eq_true qpa;have qo1:0≤(J0:Int):=of_decide_eq_true (by first|(with_reducible assumption)|assumption);have qpb:J0<(l2.length:Int):=of_decide_eq_true (by first|(with_reducible assumption)|assumption);obtain ⟨qjq,e170,XR⟩:=Kd.at_int HR2.out J0 qo1 qpb;have Zl:=XR;cases e170;replace XR:=(HB.out.cell (World.block_lt_of_cell? w _ XR)).trans XR;replace qo1:=eq_true qo1;replace qpb:=eq_true qpb;refine qb8 (n:=18) (S:=fun w'=>w'.cell? ⟨YQ,0,none⟩=some (.slice Y4 Qb.length QG)∧w'.cell? ⟨YQ,1,none⟩=some (.slice Y2 Qi.length QI)∧w'.cell? ⟨YQ,2,none⟩=some (.slice Y7 Qd.length QJ)∧w'.cell? ⟨YQ,3,none⟩=some (.int .i64 Yc)∧w'.cell? ⟨YQ,4,none⟩=some (.int .i64 Yb)∧w'.cell? ⟨Yp,0,none⟩=some (.int .i64 Zo)∧w'.cell? ⟨Yp,1,none⟩=some (.int .i64 Zf)∧w'.cell? ⟨Yp,2,none⟩=some (.int .i64 Zc)∧w'.cell? ⟨Yp,3,none⟩=some (.int .i64 Z5)∧w'.cell? ⟨Yp,4,none⟩=some (.int .i64 Z1)∧w'.cell? ⟨Yp,5,none⟩=some (.int .i64 YW)∧w'.cell? (qjp.add (J0).toNat)=some (.int .i64 (rd l1 J0))∧w'.cell? (qjq.add (J0).toNat)=some (.int .i64 (rd l2 J0))) (ds:=[]) #[false,false,false,false,false,false,false,false,false,false,false,false,false,false,false,false,false,false] (by kernel_rfl) rfl rfl ⟨(Q8 QZ.out 0).trans rfl,(Q8 QZ.out 1).trans rfl,(Q8 QZ.out 2).trans rfl,(Q8 QZ.out 3).trans rfl,(Q8 QZ.out 4).trans rfl,(Q8 Yx.out 0).trans rfl,(Q8 Yx.out 1).trans rfl,(Q8 Yx.out 2).trans rfl,(Q8 Yx.out 3).trans rfl,(Q8 Yx.out 4).trans rfl,(Q8 Yx.out 5).trans rfl,((HB.out.cell (World.block_lt_of_cell? w _ Zk)).trans Zk),((HB.out.cell (World.block_lt_of_cell? w _ Zl)).trans Zl)⟩ (fun hHeld => ?_);refine WC QC.tab15 QC.bits15 (fun HT_ HW_ => ?_)
               generalize wr.drew=w47 at HO_13 YL QZ Yx HB XQ XR hHeld ⊢
               refine ZS (i:=0) (N:=some 64) (v:=?_) (a':=?_) #[true,false,false,false,false,false,false,false,false,false,false,false,false,false,false,false,false,false] rfl rfl (Zs HT_.out (by kernel_rfl)) (fun _ _ _ h=>h) (Or.inl ⟨by rfl,?_⟩) ?_ ?_
               rotate_left
               ·
                intro w'
                go_simp
                with_reducible rfl
               rotate_left
               ·
                simp only [Act.put,List.setIfInBounds_toArray,List.set_cons_zero,List.set_cons_succ,Yn,YA]
                rfl
               refine ZS (i:=3) (N:=some 67) (v:=?_) (a':=?_) #[true,false,false,true,false,false,false,false,false,false,false,false,false,false,false,false,false,false] rfl rfl (Zs HT_.out (by kernel_rfl)) (fun _ _ _ h=>h) (Or.inl ⟨by rfl,?_⟩) ?_ ?_
               rotate_left
               ·
                intro w'
                go_simp
                with_reducible rfl
               rotate_left
               ·
                simp only [Act.put,List.setIfInBounds_toArray,List.set_cons_zero,List.set_cons_succ,Yn,YA]
                rfl
               refine ZS (i:=4) (N:=some 68) (v:=?_) (a':=?_) #[true,false,false,true,true,false,false,false,false,false,false,false,false,false,false,false,false,false] rfl rfl (Zs HT_.out (by kernel_rfl)) (fun _ _ _ h=>h) (Or.inl ⟨by rfl,?_⟩) ?_ ?_
               rotate_left
               ·
                intro w'
                go_simp
                with_reducible rfl
               rotate_left
               ·
                simp only [Act.put,List.setIfInBounds_toArray,List.set_cons_zero,List.set_cons_succ,Yn,YA]
                rfl
               refine ZS (i:=5) (N:=some 69) (v:=?_) (a':=?_) #[true,false,false,true,true,true,false,false,false,false,false,false,false,false,false,false,false,false] rfl rfl (Zs HT_.out (by kernel_rfl)) (fun _ _ _ h=>h) (Or.inl ⟨by rfl,?_⟩) ?_ ?_
               rotate_left
               ·
                intro w'
                go_simp
                with_reducible rfl
               rotate_left
               ·
                simp only [Act.put,List.setIfInBounds_toArray,List.set_cons_zero,List.set_cons_succ,Yn,YA]
                rfl
               refine ZS (i:=7) (N:=some 71) (v:=?_) (a':=?_) #[true,false,false,true,true,true,false,true,false,false,false,false,false,false,false,false,false,false] rfl rfl (Zs HT_.out (by kernel_rfl)) (fun _ _ _ h=>h) (Or.inl ⟨by rfl,?_⟩) ?_ ?_
               rotate_left
               ·
                intro w'
                go_simp
                with_reducible rfl
               rotate_left
               ·
                simp only [Act.put,List.setIfInBounds_toArray,List.set_cons_zero,List.set_cons_succ,Yn,YA]
                rfl
               refine ZS (i:=8) (N:=some 72) (v:=?_) (a':=?_) #[true,false,false,true,true,true,false,true,true,false,false,false,false,false,false,false,false,false] rfl rfl (Zs HT_.out (by kernel_rfl)) (fun _ _ _ h=>h) (Or.inl ⟨by rfl,?_⟩) ?_ ?_
               rotate_left
               ·
                intro w'
                go_simp
                with_reducible rfl
               rotate_left
               ·
                simp only [Act.put,List.setIfInBounds_toArray,List.set_cons_zero,List.set_cons_succ,Yn,YA]
                rfl
               refine ZS (i:=9) (N:=some 73) (v:=?_) (a':=?_) #[true,false,false,true,true,true,false,true,true,true,false,false,false,false,false,false,false,false] rfl rfl (Zs HT_.out (by kernel_rfl)) (fun _ _ _ h=>h) (Or.inl ⟨by rfl,?_⟩) ?_ ?_
               rotate_left
               ·
                intro w'
                go_simp
                with_reducible rfl
               rotate_left
               ·
                simp only [Act.put,List.setIfInBounds_toArray,List.set_cons_zero,List.set_cons_succ,Yn,YA]
                rfl
               refine Ow (i:=1) (N:=some 65) (v:=?_) (a':=?_) #[true,true,false,true,true,true,false,true,true,true,false,false,false,false,false,false,false,false] rfl rfl (JI HT_.out HW_.out (by kernel_rfl)) (fun _ _ _ h=>h) (Or.inl ⟨by rfl,?_⟩) hHeld ?_ ?_
               rotate_left
               ·
                rintro w' ⟨s0,s1,s2,s3,s4,s5,s6,s7,s8,s9,s10,s11,s12⟩
                go_simp
                with_reducible rfl
               rotate_left
               ·
                simp only [Act.put,List.setIfInBounds_toArray,List.set_cons_zero,List.set_cons_succ,Yn,YA]
                rfl
               refine Ow (i:=2) (N:=some 66) (v:=?_) (a':=?_) #[true,true,true,true,true,true,false,true,true,true,false,false,false,false,false,false,false,false] rfl rfl (JI HT_.out HW_.out (by kernel_rfl)) (fun _ _ _ h=>h) (Or.inl ⟨by rfl,?_⟩) hHeld ?_ ?_
               rotate_left
               ·
                rintro w' ⟨s0,s1,s2,s3,s4,s5,s6,s7,s8,s9,s10,s11,s12⟩
                go_simp
                with_reducible rfl
               rotate_left
               ·
                simp only [Act.put,List.setIfInBounds_toArray,List.set_cons_zero,List.set_cons_succ,Yn,YA]
                rfl
               refine Ow (i:=6) (N:=some 70) (v:=?_) (a':=?_) #[true,true,true,true,true,true,true,true,true,true,false,false,false,false,false,false,false,false] rfl rfl (JI HT_.out HW_.out (by kernel_rfl)) (fun _ _ _ h=>h) (Or.inl ⟨by rfl,?_⟩) hHeld ?_ ?_
               rotate_left
               ·
                rintro w' ⟨s0,s1,s2,s3,s4,s5,s6,s7,s8,s9,s10,s11,s12⟩
                go_simp
                with_reducible rfl
               rotate_left
               ·
                simp only [Act.put,List.setIfInBounds_toArray,List.set_cons_zero,List.set_cons_succ,Yn,YA]
                rfl
               refine Ow (i:=10) (N:=some 74) (v:=?_) (a':=?_) #[true,true,true,true,true,true,true,true,true,true,true,false,false,false,false,false,false,false] rfl rfl (JI HT_.out HW_.out (by kernel_rfl)) (fun _ _ _ h=>h) (Or.inl ⟨by rfl,?_⟩) hHeld ?_ ?_
               rotate_left
               ·
                rintro w' ⟨s0,s1,s2,s3,s4,s5,s6,s7,s8,s9,s10,s11,s12⟩
                go_simp
                with_reducible rfl
               rotate_left
               ·
                simp only [Act.put,List.setIfInBounds_toArray,List.set_cons_zero,List.set_cons_succ,Yn,YA]
                rfl
               refine qnY (σ:=Nat) 2 #[true,true,true,true,true,true,true,true,true,true,true,true,true,true,true,true,false,false] (fun s_=>[(75,.tuple #[.int .i64 t171,.agg #[.int .i64 Ks,.int .i64 t173,.int .i64 O6,.int .i64 t175,.int .i64 OC,.int .i64 UB]]),(16,.pointer (some ⟨s_,0,none⟩)),(63,.tuple #[.int .i64 t171,.agg #[.int .i64 Ks,.int .i64 t173,.int .i64 O6,.int .i64 t175,.int .i64 OC,.int .i64 UB]]),(76,.int .i64 t171),(77,.agg #[.int .i64 Ks,.int .i64 t173,.int .i64 O6,.int .i64 t175,.int .i64 OC,.int .i64 UB])]) (fun s_ w'=>(w'.cell? ⟨YQ,0,none⟩=some (.slice Y4 Qb.length QG)∧w'.cell? ⟨YQ,1,none⟩=some (.slice Y2 Qi.length QI)∧w'.cell? ⟨YQ,2,none⟩=some (.slice Y7 Qd.length QJ)∧w'.cell? ⟨YQ,3,none⟩=some (.int .i64 Yc)∧w'.cell? ⟨YQ,4,none⟩=some (.int .i64 Yb)∧w'.cell? ⟨Yp,0,none⟩=some (.int .i64 Zo)∧w'.cell? ⟨Yp,1,none⟩=some (.int .i64 Zf)∧w'.cell? ⟨Yp,2,none⟩=some (.int .i64 Zc)∧w'.cell? ⟨Yp,3,none⟩=some (.int .i64 Z5)∧w'.cell? ⟨Yp,4,none⟩=some (.int .i64 Z1)∧w'.cell? ⟨Yp,5,none⟩=some (.int .i64 YW)∧w'.cell? (qjp.add (J0).toNat)=some (.int .i64 (rd l1 J0))∧w'.cell? (qjq.add (J0).toNat)=some (.int .i64 (rd l2 J0)))∧(Kd.R (Kd.int .i64) 3 w' w.heap.size (fun k_=>(w.heap.size≤k_)) u13 G6)∧(w'.heap[ZQ]? = some (.cells #[.slice Y4 Qb.length QG,.slice Y2 Qi.length QI,.slice Y7 Qd.length QJ,.int .i64 Yc,.int .i64 Yb] 39 (0,0)))∧(w'.heap[YQ]? = some (.cells #[.slice Y4 Qb.length QG,.slice Y2 Qi.length QI,.slice Y7 Qd.length QJ,.int .i64 Yc,.int .i64 Yb] 111 (0,0)))∧(w'.heap[Yp]? = some (.cells #[.int .i64 Zo,.int .i64 Zf,.int .i64 Zc,.int .i64 Z5,.int .i64 Z1,.int .i64 YW] 115 (0,0)))∧(w'.heap[s_]? = some (.cells #[.int .i64 0,.int .i64 0,.int .i64 0,.int .i64 0,.int .i64 0,.int .i64 0] 115 (0,0)))∧(w.heap.size≤s_)∧(w.heap.size≤s_)∧(ZQ≠s_)∧(s_≠ZQ)∧(YQ≠s_)∧(s_≠YQ)∧(Yp≠s_)∧(s_≠Yp)∧(Below w.heap.size w w')) ?_ ?_
               rotate_left
               ·
                intro hCont;refine two_ (i:=11) (j:=15) (Ni:=some 75) (Nj:=some 16) #[true,true,true,true,true,true,true,true,true,true,true,true,false,false,false,false,false,false] #[true,true,true,true,true,true,true,true,true,true,true,false,false,false,false,true,false,false] rfl rfl rfl rfl (qkv HT_.out (by kernel_rfl)) (by decide) (by decide) (fun K hK => ?_) (fun K hK => ?_)
                ·
                 skip
                 refine qde Try.func77 (by kernel_rfl) rfl #[.agg #[.slice Y4 Qb.length QG,.slice Y2 Qi.length QI,.slice Y7 Qd.length QJ,.int .i64 Yc,.int .i64 Yb],.agg #[.int .i64 Zo,.int .i64 Zf,.int .i64 Zc,.int .i64 Z5,.int .i64 Z1,.int .i64 YW],.int .i64 (rd l1 J0),.int .i64 (rd l2 J0)] 64 (by rfl) rfl rfl rfl (by (try simp only [List.map_toArray,List.map_cons,List.map_nil]);first|done|rfl|(simp only [List.length_drop,List.length_take];rfl)) ?_
                 with_reducible refine (Ze.calls _ _ Qb _ _ Qi _ _ Qd Yc Yb Zo Zf Zc Z5 Z1 YW (rd l1 J0) (rd l2 J0) t171 Ks t173 O6 t175 OC UB _ ?side1 ?side2 ?side3 ?side4 ?side5 ?side6 A45.out).mono ?_
                 (case side1=>repeat (first|exact (Kd.C_below Jr.out HB.out)|(with_reducible refine Kd.C_alloc ?_ _)|(with_reducible refine Kd.C_drewN ?_ _)|(with_reducible refine Kd.C_drew ?_)))
                 (case side2=>exact JK.out)
                 (case side3=>repeat (first|exact (Kd.C_below Jz.out HB.out)|(with_reducible refine Kd.C_alloc ?_ _)|(with_reducible refine Kd.C_drewN ?_ _)|(with_reducible refine Kd.C_drew ?_)))
                 (case side4=>exact JL.out)
                 (case side5=>repeat (first|exact (Kd.C_below JA.out HB.out)|(with_reducible refine Kd.C_alloc ?_ _)|(with_reducible refine Kd.C_drewN ?_ _)|(with_reducible refine Kd.C_drew ?_)))
                 (case side6=>exact JM.out)
                 rintro e w48 ⟨rfl,hb⟩;refine ⟨_,rfl,?_⟩;have n0_:=Q1.mk (Kd.R_below (by (with_reducible repeat (first|apply Kd.R_alloc|apply Kd.R_drewN|apply Kd.R_drew));exact HO_13.out) hb);have n1_:=Q1.mk (Qf (g:=ZQ) (by (with_reducible repeat (first|refine Q4 ?_ _|refine Q6 ?_|refine Q3 ?_ _));exact YL.out) hb);have n2_:=Q1.mk (Qf (g:=YQ) (by (with_reducible repeat (first|refine Q4 ?_ _|refine Q6 ?_|refine Q3 ?_ _));exact QZ.out) hb);have n3_:=Q1.mk (Qf (g:=Yp) (by (with_reducible repeat (first|refine Q4 ?_ _|refine Q6 ?_|refine Q3 ?_ _));exact Yx.out) hb);have n4_:=Q1.mk (Qj (by repeat (first|(with_reducible first|exact HB.out|apply Q2|apply Q0|apply Q5|refine Q7 ?_ ZN.out|refine Q7 ?_ ZV.out|refine Q7 ?_ O3.out)|exact HB.out)) hb);clear HO_13 YL QZ Yx HB;have HO_13:=n0_;have YL:=n1_;have QZ:=n2_;have Yx:=n3_;have HB:=n4_;clear n0_ n1_ n2_ n3_ n4_
                 (try clear hb)
                 (try clear hb2)
                 (try clear hk)
                 (try clear hi)
                 refine hK.out _ _ ⟨(Q8 QZ.out 0).trans rfl,(Q8 QZ.out 1).trans rfl,(Q8 QZ.out 2).trans rfl,(Q8 QZ.out 3).trans rfl,(Q8 QZ.out 4).trans rfl,(Q8 Yx.out 0).trans rfl,(Q8 Yx.out 1).trans rfl,(Q8 Yx.out 2).trans rfl,(Q8 Yx.out 3).trans rfl,(Q8 Yx.out 4).trans rfl,(Q8 Yx.out 5).trans rfl,((HB.out.cell (World.block_lt_of_cell? w _ Zk)).trans Zk),((HB.out.cell (World.block_lt_of_cell? w _ Zl)).trans Zl)⟩ (fun hHeld => ?_);clear hK K;refine GE (a':=?_) ?_ ?_
                 rotate_left
                 ·
                  show Act.put _ (some 75) _=_
                  simp only [Act.put,List.setIfInBounds_toArray,List.set_cons_zero,List.set_cons_succ,Yn,YA]
                  rfl
                 refine ZS (i:=12) (N:=some 63) (v:=?_) (a':=?_) #[true,true,true,true,true,true,true,true,true,true,true,true,true,false,false,false,false,false] rfl rfl (Zs HT_.out (by kernel_rfl)) (fun _ _ _ h=>h) (Or.inl ⟨by rfl,?_⟩) ?_ ?_
                 rotate_left
                 ·
                  intro w'
                  go_simp
                  with_reducible rfl
                 rotate_left
                 ·
                  simp only [Act.put,List.setIfInBounds_toArray,List.set_cons_zero,List.set_cons_succ,Yn,YA]
                  rfl
                 refine ZS (i:=13) (N:=some 76) (v:=?_) (a':=?_) #[true,true,true,true,true,true,true,true,true,true,true,true,true,true,false,false,false,false] rfl rfl (Zs HT_.out (by kernel_rfl)) (fun _ _ _ h=>h) (Or.inl ⟨by rfl,?_⟩) ?_ ?_
                 rotate_left
                 ·
                  intro w'
                  go_simp
                  with_reducible rfl
                 rotate_left
                 ·
                  simp only [Act.put,List.setIfInBounds_toArray,List.set_cons_zero,List.set_cons_succ,Yn,YA]
                  rfl
                 refine ZS (i:=14) (N:=some 77) (v:=?_) (a':=?_) #[true,true,true,true,true,true,true,true,true,true,true,true,true,true,true,false,false,false] rfl rfl (Zs HT_.out (by kernel_rfl)) (fun _ _ _ h=>h) (Or.inl ⟨by rfl,?_⟩) ?_ ?_
                 rotate_left
                 ·
                  intro w'
                  go_simp
                  with_reducible rfl
                 rotate_left
                 ·
                  simp only [Act.put,List.setIfInBounds_toArray,List.set_cons_zero,List.set_cons_succ,Yn,YA]
                  rfl
                 refine one_ (i:=15) (N:=some 16) #[true,true,true,true,true,true,true,true,true,true,true,true,true,true,true,true,false,false] rfl rfl (O8 HT_.out (by kernel_rfl)) (by decide) (fun K hK => ?_);refine Xi ?hg (N:=16) ?hd (cs:=#[.int .i64 0,.int .i64 0,.int .i64 0,.int .i64 0,.int .i64 0,.int .i64 0]) (t:=115) ?hr ?_;(case hd=>rfl);(case hg=>rfl);(case hr=>first|(go_simp;done)|(go_simp;rfl));intro QH hg w49 hbox hb;have n0_:=Q1.mk (Kd.R_below (by (with_reducible repeat (first|apply Kd.R_alloc|apply Kd.R_drewN|apply Kd.R_drew));exact HO_13.out) hb);have n1_:=Q1.mk (Qf (g:=ZQ) (by (with_reducible repeat (first|refine Q4 ?_ _|refine Q6 ?_|refine Q3 ?_ _));exact YL.out) hb);have n2_:=Q1.mk (Qf (g:=YQ) (by (with_reducible repeat (first|refine Q4 ?_ _|refine Q6 ?_|refine Q3 ?_ _));exact QZ.out) hb);have n3_:=Q1.mk (Qf (g:=Yp) (by (with_reducible repeat (first|refine Q4 ?_ _|refine Q6 ?_|refine Q3 ?_ _));exact Yx.out) hb);have n4_:=Q1.mk (Qj (by repeat (first|(with_reducible first|exact HB.out|apply Q2|apply Q0|apply Q5|refine Q7 ?_ ZN.out|refine Q7 ?_ ZV.out|refine Q7 ?_ O3.out)|exact HB.out)) hb);have n5_:=Q1.mk (hbox);have n6_:=Q1.mk ((by rw [hg];exact (Qe (by repeat (first|(with_reducible first|exact HB.out|apply Q2|apply Q0|apply Q5|refine Q7 ?_ ZN.out|refine Q7 ?_ ZV.out|refine Q7 ?_ O3.out)|exact HB.out))):w.heap.size≤QH));have n7_:=n6_;have n8_:=Q1.mk ((by rw [hg];exact Nat.ne_of_lt (QL (g:=ZQ) (by (with_reducible repeat (first|refine Q4 ?_ _|refine Q6 ?_|refine Q3 ?_ _));exact YL.out)):ZQ≠QH));have n9_:=Q1.mk (n8_.out.symm);have n10_:=Q1.mk ((by rw [hg];exact Nat.ne_of_lt (QL (g:=YQ) (by (with_reducible repeat (first|refine Q4 ?_ _|refine Q6 ?_|refine Q3 ?_ _));exact QZ.out)):YQ≠QH));have n11_:=Q1.mk (n10_.out.symm);have n12_:=Q1.mk ((by rw [hg];exact Nat.ne_of_lt (QL (g:=Yp) (by (with_reducible repeat (first|refine Q4 ?_ _|refine Q6 ?_|refine Q3 ?_ _));exact Yx.out)):Yp≠QH));have n13_:=Q1.mk (n12_.out.symm);clear HO_13 YL QZ Yx HB;have HO_13:=n0_;have YL:=n1_;have QZ:=n2_;have Yx:=n3_;have HB:=n4_;have Zz:=n5_;have Zu:=n6_;have UW:=n7_;have J6:=n8_;have G8:=n9_;have Yl:=n10_;have G9:=n11_;have Y6:=n12_;have Yf:=n13_;clear n0_ n1_ n2_ n3_ n4_ n5_ n6_ n7_ n8_ n9_ n10_ n11_ n12_ n13_ hb hbox hg;refine hK.out _ _ ⟨(Q8 QZ.out 0).trans rfl,(Q8 QZ.out 1).trans rfl,(Q8 QZ.out 2).trans rfl,(Q8 QZ.out 3).trans rfl,(Q8 QZ.out 4).trans rfl,(Q8 Yx.out 0).trans rfl,(Q8 Yx.out 1).trans rfl,(Q8 Yx.out 2).trans rfl,(Q8 Yx.out 3).trans rfl,(Q8 Yx.out 4).trans rfl,(Q8 Yx.out 5).trans rfl,((HB.out.cell (World.block_lt_of_cell? w _ Zk)).trans Zk),((HB.out.cell (World.block_lt_of_cell? w _ Zl)).trans Zl)⟩ (fun hHeld => ?_);clear hK K;refine GE (a':=?_) ?_ ?_
                 rotate_left
                 ·
                  show Act.put _ (some 16) _=_
                  simp only [Act.put,List.setIfInBounds_toArray,List.set_cons_zero,List.set_cons_succ,Yn,YA]
                  rfl
                 exact GE (by simp only [UQ,Act.put,List.setIfInBounds_toArray,List.set_cons_zero,List.set_cons_succ]) (hCont (QH) _ ⟨hHeld,(by (with_reducible repeat (first|apply Kd.R_alloc|apply Kd.R_drewN|apply Kd.R_drew));exact HO_13.out),(by (with_reducible repeat (first|refine Q4 ?_ _|refine Q6 ?_|refine Q3 ?_ _));exact YL.out),(by (with_reducible repeat (first|refine Q4 ?_ _|refine Q6 ?_|refine Q3 ?_ _));exact QZ.out),(by (with_reducible repeat (first|refine Q4 ?_ _|refine Q6 ?_|refine Q3 ?_ _));exact Yx.out),(by (with_reducible repeat (first|refine Q4 ?_ _|refine Q6 ?_|refine Q3 ?_ _));exact Zz.out),Zu.out,UW.out,J6.out,G8.out,Yl.out,G9.out,Y6.out,Yf.out,(by repeat (first|(with_reducible first|exact HB.out|apply Q2|apply Q0|apply Q5|refine Q7 ?_ ZN.out|refine Q7 ?_ ZV.out|refine Q7 ?_ O3.out|refine Q7 ?_ UW.out)|exact HB.out))⟩)
                skip
                refine Xi ?hg (N:=16) ?hd (cs:=#[.int .i64 0,.int .i64 0,.int .i64 0,.int .i64 0,.int .i64 0,.int .i64 0]) (t:=115) ?hr ?_;(case hd=>rfl);(case hg=>rfl);(case hr=>first|(go_simp;done)|(go_simp;rfl));intro QH hg w48 hbox hb;have n0_:=Q1.mk (Kd.R_below (by (with_reducible repeat (first|apply Kd.R_alloc|apply Kd.R_drewN|apply Kd.R_drew));exact HO_13.out) hb);have n1_:=Q1.mk (Qf (g:=ZQ) (by (with_reducible repeat (first|refine Q4 ?_ _|refine Q6 ?_|refine Q3 ?_ _));exact YL.out) hb);have n2_:=Q1.mk (Qf (g:=YQ) (by (with_reducible repeat (first|refine Q4 ?_ _|refine Q6 ?_|refine Q3 ?_ _));exact QZ.out) hb);have n3_:=Q1.mk (Qf (g:=Yp) (by (with_reducible repeat (first|refine Q4 ?_ _|refine Q6 ?_|refine Q3 ?_ _));exact Yx.out) hb);have n4_:=Q1.mk (Qj (by repeat (first|(with_reducible first|exact HB.out|apply Q2|apply Q0|apply Q5|refine Q7 ?_ ZN.out|refine Q7 ?_ ZV.out|refine Q7 ?_ O3.out)|exact HB.out)) hb);have n5_:=Q1.mk (hbox);have n6_:=Q1.mk ((by rw [hg];exact (Qe (by repeat (first|(with_reducible first|exact HB.out|apply Q2|apply Q0|apply Q5|refine Q7 ?_ ZN.out|refine Q7 ?_ ZV.out|refine Q7 ?_ O3.out)|exact HB.out))):w.heap.size≤QH));have n7_:=n6_;have n8_:=Q1.mk ((by rw [hg];exact Nat.ne_of_lt (QL (g:=ZQ) (by (with_reducible repeat (first|refine Q4 ?_ _|refine Q6 ?_|refine Q3 ?_ _));exact YL.out)):ZQ≠QH));have n9_:=Q1.mk (n8_.out.symm);have n10_:=Q1.mk ((by rw [hg];exact Nat.ne_of_lt (QL (g:=YQ) (by (with_reducible repeat (first|refine Q4 ?_ _|refine Q6 ?_|refine Q3 ?_ _));exact QZ.out)):YQ≠QH));have n11_:=Q1.mk (n10_.out.symm);have n12_:=Q1.mk ((by rw [hg];exact Nat.ne_of_lt (QL (g:=Yp) (by (with_reducible repeat (first|refine Q4 ?_ _|refine Q6 ?_|refine Q3 ?_ _));exact Yx.out)):Yp≠QH));have n13_:=Q1.mk (n12_.out.symm);clear HO_13 YL QZ Yx HB;have HO_13:=n0_;have YL:=n1_;have QZ:=n2_;have Yx:=n3_;have HB:=n4_;have Zz:=n5_;have Zu:=n6_;have UW:=n7_;have J6:=n8_;have G8:=n9_;have Yl:=n10_;have G9:=n11_;have Y6:=n12_;have Yf:=n13_;clear n0_ n1_ n2_ n3_ n4_ n5_ n6_ n7_ n8_ n9_ n10_ n11_ n12_ n13_ hb hbox hg;refine hK.out _ _ ⟨(Q8 QZ.out 0).trans rfl,(Q8 QZ.out 1).trans rfl,(Q8 QZ.out 2).trans rfl,(Q8 QZ.out 3).trans rfl,(Q8 QZ.out 4).trans rfl,(Q8 Yx.out 0).trans rfl,(Q8 Yx.out 1).trans rfl,(Q8 Yx.out 2).trans rfl,(Q8 Yx.out 3).trans rfl,(Q8 Yx.out 4).trans rfl,(Q8 Yx.out 5).trans rfl,((HB.out.cell (World.block_lt_of_cell? w _ Zk)).trans Zk),((HB.out.cell (World.block_lt_of_cell? w _ Zl)).trans Zl)⟩ (fun hHeld => ?_);clear hK K;refine GE (a':=?_) ?_ ?_
                rotate_left
                ·
                 show Act.put _ (some 16) _=_
                 simp only [Act.put,List.setIfInBounds_toArray,List.set_cons_zero,List.set_cons_succ,Yn,YA]
                 rfl
                refine one_ (i:=11) (N:=some 75) #[true,true,true,true,true,true,true,true,true,true,true,true,false,false,false,true,false,false] rfl rfl (O8 HT_.out (by kernel_rfl)) (by decide) (fun K hK => ?_);refine qde Try.func77 (by kernel_rfl) rfl #[.agg #[.slice Y4 Qb.length QG,.slice Y2 Qi.length QI,.slice Y7 Qd.length QJ,.int .i64 Yc,.int .i64 Yb],.agg #[.int .i64 Zo,.int .i64 Zf,.int .i64 Zc,.int .i64 Z5,.int .i64 Z1,.int .i64 YW],.int .i64 (rd l1 J0),.int .i64 (rd l2 J0)] 64 (by rfl) rfl rfl rfl (by (try simp only [List.map_toArray,List.map_cons,List.map_nil]);first|done|rfl|(simp only [List.length_drop,List.length_take];rfl)) ?_
                with_reducible refine (Ze.calls _ _ Qb _ _ Qi _ _ Qd Yc Yb Zo Zf Zc Z5 Z1 YW (rd l1 J0) (rd l2 J0) t171 Ks t173 O6 t175 OC UB _ ?side1 ?side2 ?side3 ?side4 ?side5 ?side6 A45.out).mono ?_
                (case side1=>repeat (first|exact (Kd.C_below Jr.out HB.out)|(with_reducible refine Kd.C_alloc ?_ _)|(with_reducible refine Kd.C_drewN ?_ _)|(with_reducible refine Kd.C_drew ?_)))
                (case side2=>exact JK.out)
                (case side3=>repeat (first|exact (Kd.C_below Jz.out HB.out)|(with_reducible refine Kd.C_alloc ?_ _)|(with_reducible refine Kd.C_drewN ?_ _)|(with_reducible refine Kd.C_drew ?_)))
                (case side4=>exact JL.out)
                (case side5=>repeat (first|exact (Kd.C_below JA.out HB.out)|(with_reducible refine Kd.C_alloc ?_ _)|(with_reducible refine Kd.C_drewN ?_ _)|(with_reducible refine Kd.C_drew ?_)))
                (case side6=>exact JM.out)
                rintro e w49 ⟨rfl,hb⟩;refine ⟨_,rfl,?_⟩;have n0_:=Q1.mk (Kd.R_below (by (with_reducible repeat (first|apply Kd.R_alloc|apply Kd.R_drewN|apply Kd.R_drew));exact HO_13.out) hb);have n1_:=Q1.mk (Qf (g:=ZQ) (by (with_reducible repeat (first|refine Q4 ?_ _|refine Q6 ?_|refine Q3 ?_ _));exact YL.out) hb);have n2_:=Q1.mk (Qf (g:=YQ) (by (with_reducible repeat (first|refine Q4 ?_ _|refine Q6 ?_|refine Q3 ?_ _));exact QZ.out) hb);have n3_:=Q1.mk (Qf (g:=Yp) (by (with_reducible repeat (first|refine Q4 ?_ _|refine Q6 ?_|refine Q3 ?_ _));exact Yx.out) hb);have n4_:=Q1.mk (Qf (g:=QH) (by (with_reducible repeat (first|refine Q4 ?_ _|refine Q6 ?_|refine Q3 ?_ _));exact Zz.out) hb);have n5_:=Q1.mk (Qj (by repeat (first|(with_reducible first|exact HB.out|apply Q2|apply Q0|apply Q5|refine Q7 ?_ ZN.out|refine Q7 ?_ ZV.out|refine Q7 ?_ O3.out|refine Q7 ?_ UW.out)|exact HB.out)) hb);clear HO_13 YL QZ Yx Zz HB;have HO_13:=n0_;have YL:=n1_;have QZ:=n2_;have Yx:=n3_;have Zz:=n4_;have HB:=n5_;clear n0_ n1_ n2_ n3_ n4_ n5_
                (try clear hb)
                (try clear hb2)
                (try clear hk)
                (try clear hi)
                refine hK.out _ _ ⟨(Q8 QZ.out 0).trans rfl,(Q8 QZ.out 1).trans rfl,(Q8 QZ.out 2).trans rfl,(Q8 QZ.out 3).trans rfl,(Q8 QZ.out 4).trans rfl,(Q8 Yx.out 0).trans rfl,(Q8 Yx.out 1).trans rfl,(Q8 Yx.out 2).trans rfl,(Q8 Yx.out 3).trans rfl,(Q8 Yx.out 4).trans rfl,(Q8 Yx.out 5).trans rfl,((HB.out.cell (World.block_lt_of_cell? w _ Zk)).trans Zk),((HB.out.cell (World.block_lt_of_cell? w _ Zl)).trans Zl)⟩ (fun hHeld => ?_);clear hK K;refine GE (a':=?_) ?_ ?_
                rotate_left
                ·
                 show Act.put _ (some 75) _=_
                 simp only [Act.put,List.setIfInBounds_toArray,List.set_cons_zero,List.set_cons_succ,Yn,YA]
                 rfl
                refine ZS (i:=12) (N:=some 63) (v:=?_) (a':=?_) #[true,true,true,true,true,true,true,true,true,true,true,true,true,false,false,true,false,false] rfl rfl (Zs HT_.out (by kernel_rfl)) (fun _ _ _ h=>h) (Or.inl ⟨by rfl,?_⟩) ?_ ?_
                rotate_left
                ·
                 intro w'
                 go_simp
                 with_reducible rfl
                rotate_left
                ·
                 simp only [Act.put,List.setIfInBounds_toArray,List.set_cons_zero,List.set_cons_succ,Yn,YA]
                 rfl
                refine ZS (i:=13) (N:=some 76) (v:=?_) (a':=?_) #[true,true,true,true,true,true,true,true,true,true,true,true,true,true,false,true,false,false] rfl rfl (Zs HT_.out (by kernel_rfl)) (fun _ _ _ h=>h) (Or.inl ⟨by rfl,?_⟩) ?_ ?_
                rotate_left
                ·
                 intro w'
                 go_simp
                 with_reducible rfl
                rotate_left
                ·
                 simp only [Act.put,List.setIfInBounds_toArray,List.set_cons_zero,List.set_cons_succ,Yn,YA]
                 rfl
                refine ZS (i:=14) (N:=some 77) (v:=?_) (a':=?_) #[true,true,true,true,true,true,true,true,true,true,true,true,true,true,true,true,false,false] rfl rfl (Zs HT_.out (by kernel_rfl)) (fun _ _ _ h=>h) (Or.inl ⟨by rfl,?_⟩) ?_ ?_
                rotate_left
                ·
                 intro w'
                 go_simp
                 with_reducible rfl
                rotate_left
                ·
                 simp only [Act.put,List.setIfInBounds_toArray,List.set_cons_zero,List.set_cons_succ,Yn,YA]
                 rfl
                exact GE (by simp only [UQ,Act.put,List.setIfInBounds_toArray,List.set_cons_zero,List.set_cons_succ]) (hCont (QH) _ ⟨hHeld,(by (with_reducible repeat (first|apply Kd.R_alloc|apply Kd.R_drewN|apply Kd.R_drew));exact HO_13.out),(by (with_reducible repeat (first|refine Q4 ?_ _|refine Q6 ?_|refine Q3 ?_ _));exact YL.out),(by (with_reducible repeat (first|refine Q4 ?_ _|refine Q6 ?_|refine Q3 ?_ _));exact QZ.out),(by (with_reducible repeat (first|refine Q4 ?_ _|refine Q6 ?_|refine Q3 ?_ _));exact Yx.out),(by (with_reducible repeat (first|refine Q4 ?_ _|refine Q6 ?_|refine Q3 ?_ _));exact Zz.out),Zu.out,UW.out,J6.out,G8.out,Yl.out,G9.out,Y6.out,Yf.out,(by repeat (first|(with_reducible first|exact HB.out|apply Q2|apply Q0|apply Q5|refine Q7 ?_ ZN.out|refine Q7 ?_ ZV.out|refine Q7 ?_ O3.out|refine Q7 ?_ UW.out)|exact HB.out))⟩)
               rintro QH w50 ⟨hS_,h0_,h1_,h2_,h3_,h4_,h5_,h6_,h7_,h8_,h9_,h10_,h11_,h12_,h13_⟩;have n0_:Q1 (Kd.R (Kd.int .i64) 3 w50 w.heap.size (fun k_=>(w.heap.size≤k_)) u13 G6):=⟨h0_⟩;have n1_:Q1 (w50.heap[ZQ]? = some (.cells #[.slice Y4 Qb.length QG,.slice Y2 Qi.length QI,.slice Y7 Qd.length QJ,.int .i64 Yc,.int .i64 Yb] 39 (0,0))):=⟨h1_⟩;have n2_:Q1 (w50.heap[YQ]? = some (.cells #[.slice Y4 Qb.length QG,.slice Y2 Qi.length QI,.slice Y7 Qd.length QJ,.int .i64 Yc,.int .i64 Yb] 111 (0,0))):=⟨h2_⟩;have n3_:Q1 (w50.heap[Yp]? = some (.cells #[.int .i64 Zo,.int .i64 Zf,.int .i64 Zc,.int .i64 Z5,.int .i64 Z1,.int .i64 YW] 115 (0,0))):=⟨h3_⟩;have n4_:Q1 (w50.heap[QH]? = some (.cells #[.int .i64 0,.int .i64 0,.int .i64 0,.int .i64 0,.int .i64 0,.int .i64 0] 115 (0,0))):=⟨h4_⟩;have n5_:Q1 (w.heap.size≤QH):=⟨h5_⟩;have n6_:Q1 (w.heap.size≤QH):=⟨h6_⟩;have n7_:Q1 (ZQ≠QH):=⟨h7_⟩;have n8_:Q1 (QH≠ZQ):=⟨h8_⟩;have n9_:Q1 (YQ≠QH):=⟨h9_⟩;have n10_:Q1 (QH≠YQ):=⟨h10_⟩;have n11_:Q1 (Yp≠QH):=⟨h11_⟩;have n12_:Q1 (QH≠Yp):=⟨h12_⟩;have n13_:Q1 (Below w.heap.size w w50):=⟨h13_⟩;clear HO_13 YL QZ Yx HB h0_ h1_ h2_ h3_ h4_ h5_ h6_ h7_ h8_ h9_ h10_ h11_ h12_ h13_;have HO_13:=n0_;have YL:=n1_;have QZ:=n2_;have Yx:=n3_;have Zz:=n4_;have Zu:=n5_;have UW:=n6_;have J6:=n7_;have G8:=n8_;have Yl:=n9_;have G9:=n10_;have Y6:=n11_;have Yf:=n12_;have HB:=n13_;clear n0_ n1_ n2_ n3_ n4_ n5_ n6_ n7_ n8_ n9_ n10_ n11_ n12_ n13_;have hHeld:w50.cell? ⟨YQ,0,none⟩=some (.slice Y4 Qb.length QG)∧w50.cell? ⟨YQ,1,none⟩=some (.slice Y2 Qi.length QI)∧w50.cell? ⟨YQ,2,none⟩=some (.slice Y7 Qd.length QJ)∧w50.cell? ⟨YQ,3,none⟩=some (.int .i64 Yc)∧w50.cell? ⟨YQ,4,none⟩=some (.int .i64 Yb)∧w50.cell? ⟨Yp,0,none⟩=some (.int .i64 Zo)∧w50.cell? ⟨Yp,1,none⟩=some (.int .i64 Zf)∧w50.cell? ⟨Yp,2,none⟩=some (.int .i64 Zc)∧w50.cell? ⟨Yp,3,none⟩=some (.int .i64 Z5)∧w50.cell? ⟨Yp,4,none⟩=some (.int .i64 Z1)∧w50.cell? ⟨Yp,5,none⟩=some (.int .i64 YW)∧w50.cell? (qjp.add (J0).toNat)=some (.int .i64 (rd l1 J0))∧w50.cell? (qjq.add (J0).toNat)=some (.int .i64 (rd l2 J0)):=hS_;refine GE (a':=?_) ?_ ?_
               rotate_left
               ·
                simp only [UQ,Act.put,List.setIfInBounds_toArray,List.set_cons_zero,List.set_cons_succ]
                rfl
               refine ZS (i:=16) (N:=some 15) (v:=?_) (a':=?_) #[true,true,true,true,true,true,true,true,true,true,true,true,true,true,true,true,true,false] rfl rfl (Zs HT_.out (by kernel_rfl)) (fun _ _ _ h=>h) (Or.inl ⟨by rfl,?_⟩) ?_ ?_
               rotate_left
               ·
                intro w'
                go_simp
                with_reducible rfl
               rotate_left
               ·
                simp only [Act.put,List.setIfInBounds_toArray,List.set_cons_zero,List.set_cons_succ,Yn,YA]
                rfl
               refine one_ (i:=17) (N:=none) #[true,true,true,true,true,true,true,true,true,true,true,true,true,true,true,true,true,true] rfl rfl (O8 HT_.out (by kernel_rfl)) (by decide) (fun K hK => ?_);have qCU:w50.cell? ⟨QH,0,none⟩=some (.int .i64 0):=(Q8 Zz.out 0).trans rfl;have qAJ:=Q9 Zz.out 0;have qxt:=J6.out;have qxu:=Yl.out;have qxv:=Y6.out;have qwH:=G8.out;have qwI:=G9.out;have qwJ:=Yf.out;have qCV:w50.cell? ⟨QH,1,none⟩=some (.int .i64 0):=(Q8 Zz.out 1).trans rfl;have qAK:=Q9 Zz.out 1;have qxw:=J6.out;have qxx:=Yl.out;have qxy:=Y6.out;have qwK:=G8.out;have qwL:=G9.out;have qwM:=Yf.out;have qCW:w50.cell? ⟨QH,2,none⟩=some (.int .i64 0):=(Q8 Zz.out 2).trans rfl;have qAL:=Q9 Zz.out 2;have qxz:=J6.out;have qxA:=Yl.out;have qxB:=Y6.out;have qwN:=G8.out;have qwO:=G9.out;have qwP:=Yf.out;have qCX:w50.cell? ⟨QH,3,none⟩=some (.int .i64 0):=(Q8 Zz.out 3).trans rfl;have qAM:=Q9 Zz.out 3;have qxC:=J6.out;have qxD:=Yl.out;have qxE:=Y6.out;have qwQ:=G8.out;have qwR:=G9.out;have qwS:=Yf.out;have qCY:w50.cell? ⟨QH,4,none⟩=some (.int .i64 0):=(Q8 Zz.out 4).trans rfl;have qAN:=Q9 Zz.out 4;have qxF:=J6.out;have qxG:=Yl.out;have qxH:=Y6.out;have qwT:=G8.out;have qwU:=G9.out;have qwV:=Yf.out;have qCZ:w50.cell? ⟨QH,5,none⟩=some (.int .i64 0):=(Q8 Zz.out 5).trans rfl;have qAO:=Q9 Zz.out 5;have qxI:=J6.out;have qxJ:=Yl.out;have qxK:=Y6.out;have qwW:=G8.out;have qwX:=G9.out;have qwY:=Yf.out;refine qkq (w1:=?_) (by rfl) rfl ?_ ?_
               rotate_left
               ·
                go_simp
                rfl
               refine hK.out _ _ ⟨((Qk (p:=⟨QH,_,none⟩) Yl.out _).trans (((Qk (p:=⟨QH,_,none⟩) Yl.out _).trans (((Qk (p:=⟨QH,_,none⟩) Yl.out _).trans (((Qk (p:=⟨QH,_,none⟩) Yl.out _).trans (((Qk (p:=⟨QH,_,none⟩) Yl.out _).trans (((Qk (p:=⟨QH,_,none⟩) Yl.out _).trans (hHeld.1)))))))))))),((Qk (p:=⟨QH,_,none⟩) Yl.out _).trans (((Qk (p:=⟨QH,_,none⟩) Yl.out _).trans (((Qk (p:=⟨QH,_,none⟩) Yl.out _).trans (((Qk (p:=⟨QH,_,none⟩) Yl.out _).trans (((Qk (p:=⟨QH,_,none⟩) Yl.out _).trans (((Qk (p:=⟨QH,_,none⟩) Yl.out _).trans (hHeld.2.1)))))))))))),((Qk (p:=⟨QH,_,none⟩) Yl.out _).trans (((Qk (p:=⟨QH,_,none⟩) Yl.out _).trans (((Qk (p:=⟨QH,_,none⟩) Yl.out _).trans (((Qk (p:=⟨QH,_,none⟩) Yl.out _).trans (((Qk (p:=⟨QH,_,none⟩) Yl.out _).trans (((Qk (p:=⟨QH,_,none⟩) Yl.out _).trans (hHeld.2.2.1)))))))))))),((Qk (p:=⟨QH,_,none⟩) Yl.out _).trans (((Qk (p:=⟨QH,_,none⟩) Yl.out _).trans (((Qk (p:=⟨QH,_,none⟩) Yl.out _).trans (((Qk (p:=⟨QH,_,none⟩) Yl.out _).trans (((Qk (p:=⟨QH,_,none⟩) Yl.out _).trans (((Qk (p:=⟨QH,_,none⟩) Yl.out _).trans (hHeld.2.2.2.1)))))))))))),((Qk (p:=⟨QH,_,none⟩) Yl.out _).trans (((Qk (p:=⟨QH,_,none⟩) Yl.out _).trans (((Qk (p:=⟨QH,_,none⟩) Yl.out _).trans (((Qk (p:=⟨QH,_,none⟩) Yl.out _).trans (((Qk (p:=⟨QH,_,none⟩) Yl.out _).trans (((Qk (p:=⟨QH,_,none⟩) Yl.out _).trans (hHeld.2.2.2.2.1)))))))))))),((Qk (p:=⟨QH,_,none⟩) Y6.out _).trans (((Qk (p:=⟨QH,_,none⟩) Y6.out _).trans (((Qk (p:=⟨QH,_,none⟩) Y6.out _).trans (((Qk (p:=⟨QH,_,none⟩) Y6.out _).trans (((Qk (p:=⟨QH,_,none⟩) Y6.out _).trans (((Qk (p:=⟨QH,_,none⟩) Y6.out _).trans (hHeld.2.2.2.2.2.1)))))))))))),((Qk (p:=⟨QH,_,none⟩) Y6.out _).trans (((Qk (p:=⟨QH,_,none⟩) Y6.out _).trans (((Qk (p:=⟨QH,_,none⟩) Y6.out _).trans (((Qk (p:=⟨QH,_,none⟩) Y6.out _).trans (((Qk (p:=⟨QH,_,none⟩) Y6.out _).trans (((Qk (p:=⟨QH,_,none⟩) Y6.out _).trans (hHeld.2.2.2.2.2.2.1)))))))))))),((Qk (p:=⟨QH,_,none⟩) Y6.out _).trans (((Qk (p:=⟨QH,_,none⟩) Y6.out _).trans (((Qk (p:=⟨QH,_,none⟩) Y6.out _).trans (((Qk (p:=⟨QH,_,none⟩) Y6.out _).trans (((Qk (p:=⟨QH,_,none⟩) Y6.out _).trans (((Qk (p:=⟨QH,_,none⟩) Y6.out _).trans (hHeld.2.2.2.2.2.2.2.1)))))))))))),((Qk (p:=⟨QH,_,none⟩) Y6.out _).trans (((Qk (p:=⟨QH,_,none⟩) Y6.out _).trans (((Qk (p:=⟨QH,_,none⟩) Y6.out _).trans (((Qk (p:=⟨QH,_,none⟩) Y6.out _).trans (((Qk (p:=⟨QH,_,none⟩) Y6.out _).trans (((Qk (p:=⟨QH,_,none⟩) Y6.out _).trans (hHeld.2.2.2.2.2.2.2.2.1)))))))))))),((Qk (p:=⟨QH,_,none⟩) Y6.out _).trans (((Qk (p:=⟨QH,_,none⟩) Y6.out _).trans (((Qk (p:=⟨QH,_,none⟩) Y6.out _).trans (((Qk (p:=⟨QH,_,none⟩) Y6.out _).trans (((Qk (p:=⟨QH,_,none⟩) Y6.out _).trans (((Qk (p:=⟨QH,_,none⟩) Y6.out _).trans (hHeld.2.2.2.2.2.2.2.2.2.1)))))))))))),((Qk (p:=⟨QH,_,none⟩) Y6.out _).trans (((Qk (p:=⟨QH,_,none⟩) Y6.out _).trans (((Qk (p:=⟨QH,_,none⟩) Y6.out _).trans (((Qk (p:=⟨QH,_,none⟩) Y6.out _).trans (((Qk (p:=⟨QH,_,none⟩) Y6.out _).trans (((Qk (p:=⟨QH,_,none⟩) Y6.out _).trans (hHeld.2.2.2.2.2.2.2.2.2.2.1)))))))))))),((Qk (p:=⟨QH,_,none⟩) (by first|exact Nat.ne_of_lt (Nat.lt_of_lt_of_le (by have:=World.block_lt_of_cell? _ _ Zk;first|rwa [Qg] at this|exact this) Zu.out)|(rw [Qg];exact Nat.ne_of_lt (Nat.lt_of_lt_of_le (by have:=World.block_lt_of_cell? _ _ Zk;first|rwa [Qg] at this|exact this) Zu.out))|(show (Addr.add _ _).block≠_;rw [Qg];exact Nat.ne_of_lt (Nat.lt_of_lt_of_le (by have:=World.block_lt_of_cell? _ _ Zk;first|rwa [Qg] at this|exact this) Zu.out))|(dsimp only;exact Nat.ne_of_lt (Nat.lt_of_lt_of_le (by have:=World.block_lt_of_cell? _ _ Zk;first|rwa [Qg] at this|exact this) Zu.out))) _).trans (((Qk (p:=⟨QH,_,none⟩) (by first|exact Nat.ne_of_lt (Nat.lt_of_lt_of_le (by have:=World.block_lt_of_cell? _ _ Zk;first|rwa [Qg] at this|exact this) Zu.out)|(rw [Qg];exact Nat.ne_of_lt (Nat.lt_of_lt_of_le (by have:=World.block_lt_of_cell? _ _ Zk;first|rwa [Qg] at this|exact this) Zu.out))|(show (Addr.add _ _).block≠_;rw [Qg];exact Nat.ne_of_lt (Nat.lt_of_lt_of_le (by have:=World.block_lt_of_cell? _ _ Zk;first|rwa [Qg] at this|exact this) Zu.out))|(dsimp only;exact Nat.ne_of_lt (Nat.lt_of_lt_of_le (by have:=World.block_lt_of_cell? _ _ Zk;first|rwa [Qg] at this|exact this) Zu.out))) _).trans (((Qk (p:=⟨QH,_,none⟩) (by first|exact Nat.ne_of_lt (Nat.lt_of_lt_of_le (by have:=World.block_lt_of_cell? _ _ Zk;first|rwa [Qg] at this|exact this) Zu.out)|(rw [Qg];exact Nat.ne_of_lt (Nat.lt_of_lt_of_le (by have:=World.block_lt_of_cell? _ _ Zk;first|rwa [Qg] at this|exact this) Zu.out))|(show (Addr.add _ _).block≠_;rw [Qg];exact Nat.ne_of_lt (Nat.lt_of_lt_of_le (by have:=World.block_lt_of_cell? _ _ Zk;first|rwa [Qg] at this|exact this) Zu.out))|(dsimp only;exact Nat.ne_of_lt (Nat.lt_of_lt_of_le (by have:=World.block_lt_of_cell? _ _ Zk;first|rwa [Qg] at this|exact this) Zu.out))) _).trans (((Qk (p:=⟨QH,_,none⟩) (by first|exact Nat.ne_of_lt (Nat.lt_of_lt_of_le (by have:=World.block_lt_of_cell? _ _ Zk;first|rwa [Qg] at this|exact this) Zu.out)|(rw [Qg];exact Nat.ne_of_lt (Nat.lt_of_lt_of_le (by have:=World.block_lt_of_cell? _ _ Zk;first|rwa [Qg] at this|exact this) Zu.out))|(show (Addr.add _ _).block≠_;rw [Qg];exact Nat.ne_of_lt (Nat.lt_of_lt_of_le (by have:=World.block_lt_of_cell? _ _ Zk;first|rwa [Qg] at this|exact this) Zu.out))|(dsimp only;exact Nat.ne_of_lt (Nat.lt_of_lt_of_le (by have:=World.block_lt_of_cell? _ _ Zk;first|rwa [Qg] at this|exact this) Zu.out))) _).trans (((Qk (p:=⟨QH,_,none⟩) (by first|exact Nat.ne_of_lt (Nat.lt_of_lt_of_le (by have:=World.block_lt_of_cell? _ _ Zk;first|rwa [Qg] at this|exact this) Zu.out)|(rw [Qg];exact Nat.ne_of_lt (Nat.lt_of_lt_of_le (by have:=World.block_lt_of_cell? _ _ Zk;first|rwa [Qg] at this|exact this) Zu.out))|(show (Addr.add _ _).block≠_;rw [Qg];exact Nat.ne_of_lt (Nat.lt_of_lt_of_le (by have:=World.block_lt_of_cell? _ _ Zk;first|rwa [Qg] at this|exact this) Zu.out))|(dsimp only;exact Nat.ne_of_lt (Nat.lt_of_lt_of_le (by have:=World.block_lt_of_cell? _ _ Zk;first|rwa [Qg] at this|exact this) Zu.out))) _).trans (((Qk (p:=⟨QH,_,none⟩) (by first|exact Nat.ne_of_lt (Nat.lt_of_lt_of_le (by have:=World.block_lt_of_cell? _ _ Zk;first|rwa [Qg] at this|exact this) Zu.out)|(rw [Qg];exact Nat.ne_of_lt (Nat.lt_of_lt_of_le (by have:=World.block_lt_of_cell? _ _ Zk;first|rwa [Qg] at this|exact this) Zu.out))|(show (Addr.add _ _).block≠_;rw [Qg];exact Nat.ne_of_lt (Nat.lt_of_lt_of_le (by have:=World.block_lt_of_cell? _ _ Zk;first|rwa [Qg] at this|exact this) Zu.out))|(dsimp only;exact Nat.ne_of_lt (Nat.lt_of_lt_of_le (by have:=World.block_lt_of_cell? _ _ Zk;first|rwa [Qg] at this|exact this) Zu.out))) _).trans (hHeld.2.2.2.2.2.2.2.2.2.2.2.1)))))))))))),((Qk (p:=⟨QH,_,none⟩) (by first|exact Nat.ne_of_lt (Nat.lt_of_lt_of_le (by have:=World.block_lt_of_cell? _ _ Zl;first|rwa [Qg] at this|exact this) Zu.out)|(rw [Qg];exact Nat.ne_of_lt (Nat.lt_of_lt_of_le (by have:=World.block_lt_of_cell? _ _ Zl;first|rwa [Qg] at this|exact this) Zu.out))|(show (Addr.add _ _).block≠_;rw [Qg];exact Nat.ne_of_lt (Nat.lt_of_lt_of_le (by have:=World.block_lt_of_cell? _ _ Zl;first|rwa [Qg] at this|exact this) Zu.out))|(dsimp only;exact Nat.ne_of_lt (Nat.lt_of_lt_of_le (by have:=World.block_lt_of_cell? _ _ Zl;first|rwa [Qg] at this|exact this) Zu.out))) _).trans (((Qk (p:=⟨QH,_,none⟩) (by first|exact Nat.ne_of_lt (Nat.lt_of_lt_of_le (by have:=World.block_lt_of_cell? _ _ Zl;first|rwa [Qg] at this|exact this) Zu.out)|(rw [Qg];exact Nat.ne_of_lt (Nat.lt_of_lt_of_le (by have:=World.block_lt_of_cell? _ _ Zl;first|rwa [Qg] at this|exact this) Zu.out))|(show (Addr.add _ _).block≠_;rw [Qg];exact Nat.ne_of_lt (Nat.lt_of_lt_of_le (by have:=World.block_lt_of_cell? _ _ Zl;first|rwa [Qg] at this|exact this) Zu.out))|(dsimp only;exact Nat.ne_of_lt (Nat.lt_of_lt_of_le (by have:=World.block_lt_of_cell? _ _ Zl;first|rwa [Qg] at this|exact this) Zu.out))) _).trans (((Qk (p:=⟨QH,_,none⟩) (by first|exact Nat.ne_of_lt (Nat.lt_of_lt_of_le (by have:=World.block_lt_of_cell? _ _ Zl;first|rwa [Qg] at this|exact this) Zu.out)|(rw [Qg];exact Nat.ne_of_lt (Nat.lt_of_lt_of_le (by have:=World.block_lt_of_cell? _ _ Zl;first|rwa [Qg] at this|exact this) Zu.out))|(show (Addr.add _ _).block≠_;rw [Qg];exact Nat.ne_of_lt (Nat.lt_of_lt_of_le (by have:=World.block_lt_of_cell? _ _ Zl;first|rwa [Qg] at this|exact this) Zu.out))|(dsimp only;exact Nat.ne_of_lt (Nat.lt_of_lt_of_le (by have:=World.block_lt_of_cell? _ _ Zl;first|rwa [Qg] at this|exact this) Zu.out))) _).trans (((Qk (p:=⟨QH,_,none⟩) (by first|exact Nat.ne_of_lt (Nat.lt_of_lt_of_le (by have:=World.block_lt_of_cell? _ _ Zl;first|rwa [Qg] at this|exact this) Zu.out)|(rw [Qg];exact Nat.ne_of_lt (Nat.lt_of_lt_of_le (by have:=World.block_lt_of_cell? _ _ Zl;first|rwa [Qg] at this|exact this) Zu.out))|(show (Addr.add _ _).block≠_;rw [Qg];exact Nat.ne_of_lt (Nat.lt_of_lt_of_le (by have:=World.block_lt_of_cell? _ _ Zl;first|rwa [Qg] at this|exact this) Zu.out))|(dsimp only;exact Nat.ne_of_lt (Nat.lt_of_lt_of_le (by have:=World.block_lt_of_cell? _ _ Zl;first|rwa [Qg] at this|exact this) Zu.out))) _).trans (((Qk (p:=⟨QH,_,none⟩) (by first|exact Nat.ne_of_lt (Nat.lt_of_lt_of_le (by have:=World.block_lt_of_cell? _ _ Zl;first|rwa [Qg] at this|exact this) Zu.out)|(rw [Qg];exact Nat.ne_of_lt (Nat.lt_of_lt_of_le (by have:=World.block_lt_of_cell? _ _ Zl;first|rwa [Qg] at this|exact this) Zu.out))|(show (Addr.add _ _).block≠_;rw [Qg];exact Nat.ne_of_lt (Nat.lt_of_lt_of_le (by have:=World.block_lt_of_cell? _ _ Zl;first|rwa [Qg] at this|exact this) Zu.out))|(dsimp only;exact Nat.ne_of_lt (Nat.lt_of_lt_of_le (by have:=World.block_lt_of_cell? _ _ Zl;first|rwa [Qg] at this|exact this) Zu.out))) _).trans (((Qk (p:=⟨QH,_,none⟩) (by first|exact Nat.ne_of_lt (Nat.lt_of_lt_of_le (by have:=World.block_lt_of_cell? _ _ Zl;first|rwa [Qg] at this|exact this) Zu.out)|(rw [Qg];exact Nat.ne_of_lt (Nat.lt_of_lt_of_le (by have:=World.block_lt_of_cell? _ _ Zl;first|rwa [Qg] at this|exact this) Zu.out))|(show (Addr.add _ _).block≠_;rw [Qg];exact Nat.ne_of_lt (Nat.lt_of_lt_of_le (by have:=World.block_lt_of_cell? _ _ Zl;first|rwa [Qg] at this|exact this) Zu.out))|(dsimp only;exact Nat.ne_of_lt (Nat.lt_of_lt_of_le (by have:=World.block_lt_of_cell? _ _ Zl;first|rwa [Qg] at this|exact this) Zu.out))) _).trans (hHeld.2.2.2.2.2.2.2.2.2.2.2.2))))))))))))⟩ (fun hHeld => ?_);clear hK K;refine qez (qa4 HT_.out (by kernel_rfl)) ?_
               try go_wp2
               have n0_:Q1 (Kd.R (Kd.int .i64) 3 ((((((w50.setCell ⟨QH,0,none⟩ (.int .i64 Ks)).setCell ⟨QH,1,none⟩ (.int .i64 t173)).setCell ⟨QH,2,none⟩ (.int .i64 O6)).setCell ⟨QH,3,none⟩ (.int .i64 t175)).setCell ⟨QH,4,none⟩ (.int .i64 OC)).setCell ⟨QH,5,none⟩ (.int .i64 UB)) w.heap.size (fun k_=>(w.heap.size≤k_)) u13 G6):=⟨by (with_reducible repeat (first|apply Kd.R_alloc|apply Kd.R_drewN|apply Kd.R_drew));exact Kd.R_mono (Kd.R_far (p:=⟨QH,5,none⟩) (Kd.R_far (p:=⟨QH,4,none⟩) (Kd.R_far (p:=⟨QH,3,none⟩) (Kd.R_far (p:=⟨QH,2,none⟩) (Kd.R_far (p:=⟨QH,1,none⟩) (Kd.R_far (p:=⟨QH,0,none⟩) (Kd.R_types HO_13.out Zz.out (by decide)) (fun _ hk=>hk.2) (.int .i64 Ks)) (fun _ hk=>hk.2) (.int .i64 t173)) (fun _ hk=>hk.2) (.int .i64 O6)) (fun _ hk=>hk.2) (.int .i64 t175)) (fun _ hk=>hk.2) (.int .i64 OC)) (fun _ hk=>hk.2) (.int .i64 UB)) (fun _ hk=>hk.1)⟩;have n1_:Q1 (((((((w50.setCell ⟨QH,0,none⟩ (.int .i64 Ks)).setCell ⟨QH,1,none⟩ (.int .i64 t173)).setCell ⟨QH,2,none⟩ (.int .i64 O6)).setCell ⟨QH,3,none⟩ (.int .i64 t175)).setCell ⟨QH,4,none⟩ (.int .i64 OC)).setCell ⟨QH,5,none⟩ (.int .i64 UB)).heap[ZQ]? = some (.cells #[.slice Y4 Qb.length QG,.slice Y2 Qi.length QI,.slice Y7 Qd.length QJ,.int .i64 Yc,.int .i64 Yb] 39 (0,0))):=⟨by (with_reducible repeat (first|refine Q4 ?_ _|refine Q6 ?_|refine Q3 ?_ _));refine Qm ?_ J6.out _;(with_reducible repeat (first|refine Q4 ?_ _|refine Q6 ?_|refine Q3 ?_ _));refine Qm ?_ J6.out _;(with_reducible repeat (first|refine Q4 ?_ _|refine Q6 ?_|refine Q3 ?_ _));refine Qm ?_ J6.out _;(with_reducible repeat (first|refine Q4 ?_ _|refine Q6 ?_|refine Q3 ?_ _));refine Qm ?_ J6.out _;(with_reducible repeat (first|refine Q4 ?_ _|refine Q6 ?_|refine Q3 ?_ _));refine Qm ?_ J6.out _;(with_reducible repeat (first|refine Q4 ?_ _|refine Q6 ?_|refine Q3 ?_ _));refine Qm ?_ J6.out _;(with_reducible repeat (first|refine Q4 ?_ _|refine Q6 ?_|refine Q3 ?_ _));exact YL.out⟩;have n2_:Q1 (((((((w50.setCell ⟨QH,0,none⟩ (.int .i64 Ks)).setCell ⟨QH,1,none⟩ (.int .i64 t173)).setCell ⟨QH,2,none⟩ (.int .i64 O6)).setCell ⟨QH,3,none⟩ (.int .i64 t175)).setCell ⟨QH,4,none⟩ (.int .i64 OC)).setCell ⟨QH,5,none⟩ (.int .i64 UB)).heap[YQ]? = some (.cells #[.slice Y4 Qb.length QG,.slice Y2 Qi.length QI,.slice Y7 Qd.length QJ,.int .i64 Yc,.int .i64 Yb] 111 (0,0))):=⟨by (with_reducible repeat (first|refine Q4 ?_ _|refine Q6 ?_|refine Q3 ?_ _));refine Qm ?_ Yl.out _;(with_reducible repeat (first|refine Q4 ?_ _|refine Q6 ?_|refine Q3 ?_ _));refine Qm ?_ Yl.out _;(with_reducible repeat (first|refine Q4 ?_ _|refine Q6 ?_|refine Q3 ?_ _));refine Qm ?_ Yl.out _;(with_reducible repeat (first|refine Q4 ?_ _|refine Q6 ?_|refine Q3 ?_ _));refine Qm ?_ Yl.out _;(with_reducible repeat (first|refine Q4 ?_ _|refine Q6 ?_|refine Q3 ?_ _));refine Qm ?_ Yl.out _;(with_reducible repeat (first|refine Q4 ?_ _|refine Q6 ?_|refine Q3 ?_ _));refine Qm ?_ Yl.out _;(with_reducible repeat (first|refine Q4 ?_ _|refine Q6 ?_|refine Q3 ?_ _));exact QZ.out⟩;have n3_:Q1 (((((((w50.setCell ⟨QH,0,none⟩ (.int .i64 Ks)).setCell ⟨QH,1,none⟩ (.int .i64 t173)).setCell ⟨QH,2,none⟩ (.int .i64 O6)).setCell ⟨QH,3,none⟩ (.int .i64 t175)).setCell ⟨QH,4,none⟩ (.int .i64 OC)).setCell ⟨QH,5,none⟩ (.int .i64 UB)).heap[Yp]? = some (.cells #[.int .i64 Zo,.int .i64 Zf,.int .i64 Zc,.int .i64 Z5,.int .i64 Z1,.int .i64 YW] 115 (0,0))):=⟨by (with_reducible repeat (first|refine Q4 ?_ _|refine Q6 ?_|refine Q3 ?_ _));refine Qm ?_ Y6.out _;(with_reducible repeat (first|refine Q4 ?_ _|refine Q6 ?_|refine Q3 ?_ _));refine Qm ?_ Y6.out _;(with_reducible repeat (first|refine Q4 ?_ _|refine Q6 ?_|refine Q3 ?_ _));refine Qm ?_ Y6.out _;(with_reducible repeat (first|refine Q4 ?_ _|refine Q6 ?_|refine Q3 ?_ _));refine Qm ?_ Y6.out _;(with_reducible repeat (first|refine Q4 ?_ _|refine Q6 ?_|refine Q3 ?_ _));refine Qm ?_ Y6.out _;(with_reducible repeat (first|refine Q4 ?_ _|refine Q6 ?_|refine Q3 ?_ _));refine Qm ?_ Y6.out _;(with_reducible repeat (first|refine Q4 ?_ _|refine Q6 ?_|refine Q3 ?_ _));exact Yx.out⟩;have n4_:Q1 (((((((w50.setCell ⟨QH,0,none⟩ (.int .i64 Ks)).setCell ⟨QH,1,none⟩ (.int .i64 t173)).setCell ⟨QH,2,none⟩ (.int .i64 O6)).setCell ⟨QH,3,none⟩ (.int .i64 t175)).setCell ⟨QH,4,none⟩ (.int .i64 OC)).setCell ⟨QH,5,none⟩ (.int .i64 UB)).heap[QH]? = some (.cells #[.int .i64 Ks,.int .i64 t173,.int .i64 O6,.int .i64 t175,.int .i64 OC,.int .i64 UB] 115 (0,0))):=⟨by (with_reducible repeat (first|refine Q4 ?_ _|refine Q6 ?_|refine Q3 ?_ _));refine Qv (cs:=#[.int .i64 Ks,.int .i64 t173,.int .i64 O6,.int .i64 t175,.int .i64 OC,.int .i64 0]) ?_ 5 _ rfl;(with_reducible repeat (first|refine Q4 ?_ _|refine Q6 ?_|refine Q3 ?_ _));refine Qv (cs:=#[.int .i64 Ks,.int .i64 t173,.int .i64 O6,.int .i64 t175,.int .i64 0,.int .i64 0]) ?_ 4 _ rfl;(with_reducible repeat (first|refine Q4 ?_ _|refine Q6 ?_|refine Q3 ?_ _));refine Qv (cs:=#[.int .i64 Ks,.int .i64 t173,.int .i64 O6,.int .i64 0,.int .i64 0,.int .i64 0]) ?_ 3 _ rfl;(with_reducible repeat (first|refine Q4 ?_ _|refine Q6 ?_|refine Q3 ?_ _));refine Qv (cs:=#[.int .i64 Ks,.int .i64 t173,.int .i64 0,.int .i64 0,.int .i64 0,.int .i64 0]) ?_ 2 _ rfl;(with_reducible repeat (first|refine Q4 ?_ _|refine Q6 ?_|refine Q3 ?_ _));refine Qv (cs:=#[.int .i64 Ks,.int .i64 0,.int .i64 0,.int .i64 0,.int .i64 0,.int .i64 0]) ?_ 1 _ rfl;(with_reducible repeat (first|refine Q4 ?_ _|refine Q6 ?_|refine Q3 ?_ _));refine Qv (cs:=#[.int .i64 0,.int .i64 0,.int .i64 0,.int .i64 0,.int .i64 0,.int .i64 0]) ?_ 0 _ rfl;(with_reducible repeat (first|refine Q4 ?_ _|refine Q6 ?_|refine Q3 ?_ _));exact Zz.out⟩;have n5_:Q1 (Below w.heap.size w ((((((w50.setCell ⟨QH,0,none⟩ (.int .i64 Ks)).setCell ⟨QH,1,none⟩ (.int .i64 t173)).setCell ⟨QH,2,none⟩ (.int .i64 O6)).setCell ⟨QH,3,none⟩ (.int .i64 t175)).setCell ⟨QH,4,none⟩ (.int .i64 OC)).setCell ⟨QH,5,none⟩ (.int .i64 UB))):=⟨by repeat (first|(with_reducible first|exact HB.out|apply Q2|apply Q0|apply Q5|refine Q7 ?_ ZN.out|refine Q7 ?_ ZV.out|refine Q7 ?_ O3.out|refine Q7 ?_ UW.out)|exact HB.out)⟩
               (try clear HO_13)
               (try clear YL)
               (try clear QZ)
               (try clear Yx)
               (try clear Zz)
               (try clear HB)
               generalize ((((((w50.setCell ⟨QH,0,none⟩ (.int .i64 Ks)).setCell ⟨QH,1,none⟩ (.int .i64 t173)).setCell ⟨QH,2,none⟩ (.int .i64 O6)).setCell ⟨QH,3,none⟩ (.int .i64 t175)).setCell ⟨QH,4,none⟩ (.int .i64 OC)).setCell ⟨QH,5,none⟩ (.int .i64 UB))=w57 at n0_ n1_ n2_ n3_ n4_ n5_ ⊢
               have HO_13:=n0_;have YL:=n1_;have QZ:=n2_;have Yx:=n3_;have Zz:=n4_;have HB:=n5_;clear n0_ n1_ n2_ n3_ n4_ n5_;have n0_:=Q1.mk (Kd.R_drew HO_13.out);have n1_:=Q1.mk (Q6 YL.out);have n2_:=Q1.mk (Q6 QZ.out);have n3_:=Q1.mk (Q6 Yx.out);have n4_:=Q1.mk (Q6 Zz.out);have n5_:=Q1.mk (Q5 HB.out);clear HO_13 YL QZ Yx Zz HB;have HO_13:=n0_;have YL:=n1_;have QZ:=n2_;have Yx:=n3_;have Zz:=n4_;have HB:=n5_;clear n0_ n1_ n2_ n3_ n4_ n5_;refine qb8 (n:=7) (S:=fun w'=>w'.cell? ⟨QH,0,none⟩=some (.int .i64 Ks)∧w'.cell? ⟨QH,1,none⟩=some (.int .i64 t173)∧w'.cell? ⟨QH,2,none⟩=some (.int .i64 O6)∧w'.cell? ⟨QH,3,none⟩=some (.int .i64 t175)∧w'.cell? ⟨QH,4,none⟩=some (.int .i64 OC)∧w'.cell? ⟨QH,5,none⟩=some (.int .i64 UB)) (ds:=[]) #[false,false,false,false,false,false,false] (by kernel_rfl) rfl rfl ⟨(Q8 Zz.out 0).trans rfl,(Q8 Zz.out 1).trans rfl,(Q8 Zz.out 2).trans rfl,(Q8 Zz.out 3).trans rfl,(Q8 Zz.out 4).trans rfl,(Q8 Zz.out 5).trans rfl⟩ (fun hHeld => ?_)
               generalize w57.drew=w58 at HO_13 YL QZ Yx Zz HB hHeld ⊢
               refine ZS (i:=0) (N:=some 78) (v:=?_) (a':=?_) #[true,false,false,false,false,false,false] rfl rfl (by kernel_rfl) (fun _ _ _ h=>h) (Or.inl ⟨by rfl,?_⟩) ?_ ?_
               rotate_left
               ·
                intro w'
                go_simp
                with_reducible rfl
               rotate_left
               ·
                simp only [Act.put,List.setIfInBounds_toArray,List.set_cons_zero,List.set_cons_succ,Yn,YA]
                rfl
               refine ZS (i:=1) (N:=some 79) (v:=?_) (a':=?_) #[true,true,false,false,false,false,false] rfl rfl (by kernel_rfl) (fun _ _ _ h=>h) (Or.inl ⟨by rfl,?_⟩) ?_ ?_
               rotate_left
               ·
                intro w'
                go_simp
                with_reducible rfl
               rotate_left
               ·
                simp only [Act.put,List.setIfInBounds_toArray,List.set_cons_zero,List.set_cons_succ,Yn,YA]
                rfl
               refine Ow (i:=4) (N:=some 82) (v:=?_) (a':=?_) #[true,true,false,false,true,false,false] rfl rfl (by kernel_rfl) (fun _ _ _ h=>h) (Or.inl ⟨by rfl,?_⟩) hHeld ?_ ?_
               rotate_left
               ·
                rintro w' ⟨s0,s1,s2,s3,s4,s5⟩
                go_simp
                with_reducible rfl
               rotate_left
               ·
                simp only [Act.put,List.setIfInBounds_toArray,List.set_cons_zero,List.set_cons_succ,Yn,YA]
                rfl
               refine one_ (i:=2) (N:=some 80) #[true,true,true,false,true,false,false] rfl rfl (by kernel_rfl) (by decide) (fun K hK => ?_);refine qgY (w1:=?_) (v:=?_) (by rfl) rfl ?_ ?_
               rotate_left 2
               ·
                go_simp
                constructor
                ·
                 rfl
                rfl
               refine hK.out _ _ ⟨(Q8 (Q3 Zz.out _) 0).trans rfl,(Q8 (Q3 Zz.out _) 1).trans rfl,(Q8 (Q3 Zz.out _) 2).trans rfl,(Q8 (Q3 Zz.out _) 3).trans rfl,(Q8 (Q3 Zz.out _) 4).trans rfl,(Q8 (Q3 Zz.out _) 5).trans rfl⟩ (fun hHeld => ?_);clear hK K;refine GE (a':=?_) ?_ ?_
               rotate_left
               ·
                show Act.put _ (some 80) _=_
                simp only [Act.put,List.setIfInBounds_toArray,List.set_cons_zero,List.set_cons_succ,Yn,YA]
                rfl
               refine one_ (i:=3) (N:=some 81) #[true,true,true,true,true,false,false] rfl rfl (by kernel_rfl) (by decide) (fun K hK => ?_);refine Kd.R_append_step (Kd.int .i64) (w0:=w) w.heap.size (by rfl) (.tmp 78) (.tmp 80) 37 3 (.int .i64 0) 8 rfl Try.underlying37 XU rfl (by decide) (by omega) u13 G6 t171 [.int .i64 t171] (fun k_=>(w.heap.size≤k_)) (fun _=>False) rfl rfl ?aP (fun _ hk=>hk.elim) ?aF ?aO ?aB ?aS ?aL ?_
               (case aP=>exact rfl)
               (case aB=>exact (by repeat (first|(with_reducible first|exact HB.out|apply Q2|apply Q0|apply Q5|refine Q7 ?_ ZN.out|refine Q7 ?_ ZV.out|refine Q7 ?_ O3.out|refine Q7 ?_ UW.out)|exact HB.out)))
               (case aF=>exact (fun k_ hk=>(Nat.le_trans (Qe (by repeat (first|(with_reducible first|exact HB.out|apply Q2|apply Q0|apply Q5|refine Q7 ?_ ZN.out|refine Q7 ?_ ZV.out|refine Q7 ?_ O3.out|refine Q7 ?_ UW.out)|exact HB.out))) hk)))
               (case aO=>exact (by (with_reducible repeat (first|apply Kd.R_alloc|apply Kd.R_drewN|apply Kd.R_drew));exact HO_13.out))
               (case aS=>exact (Qe (by repeat (first|(with_reducible first|exact HB.out|apply Q2|apply Q0|apply Q5|refine Q7 ?_ ZN.out|refine Q7 ?_ ZV.out|refine Q7 ?_ O3.out|refine Q7 ?_ UW.out)|exact HB.out))))
               (case aL=>have:=qpU.out;omega)
               intro qDg w59 ho hb hg hat;rw [← qpV.out] at ho;have n0_:=Q1.mk (JG (g:=ZQ) (by (with_reducible repeat (first|refine Q4 ?_ _|refine Q6 ?_|refine Q3 ?_ _));exact YL.out) hg (Kd.R_ne HO_13.out YL.out (by decide)));have n1_:=Q1.mk (JG (g:=YQ) (by (with_reducible repeat (first|refine Q4 ?_ _|refine Q6 ?_|refine Q3 ?_ _));exact QZ.out) hg (Kd.R_ne HO_13.out QZ.out (by decide)));have n2_:=Q1.mk (JG (g:=Yp) (by (with_reducible repeat (first|refine Q4 ?_ _|refine Q6 ?_|refine Q3 ?_ _));exact Yx.out) hg (Kd.R_ne HO_13.out Yx.out (by decide)));have n3_:=Q1.mk (JG (g:=QH) (by (with_reducible repeat (first|refine Q4 ?_ _|refine Q6 ?_|refine Q3 ?_ _));exact Zz.out) hg (Kd.R_ne HO_13.out Zz.out (by decide)));have n4_:=Q1.mk (hb);have n5_:=Q1.mk (ho);clear YL QZ Yx Zz HB HO_13;have YL:=n0_;have QZ:=n1_;have Yx:=n2_;have Zz:=n3_;have HB:=n4_;have qpL:=n5_;clear n0_ n1_ n2_ n3_ n4_ n5_ ho hb hg hat;refine hK.out _ _ ⟨(Q8 Zz.out 0).trans rfl,(Q8 Zz.out 1).trans rfl,(Q8 Zz.out 2).trans rfl,(Q8 Zz.out 3).trans rfl,(Q8 Zz.out 4).trans rfl,(Q8 Zz.out 5).trans rfl⟩ (fun hHeld => ?_);clear hK K;refine GE (a':=?_) ?_ ?_
               rotate_left
               ·
                show Act.put _ (some 81) _=_
                simp only [Act.put,List.setIfInBounds_toArray,List.set_cons_zero,List.set_cons_succ,Yn,YA]
                rfl
               refine ZS (i:=5) (N:=some 13) (v:=?_) (a':=?_) #[true,true,true,true,true,true,false] rfl rfl (by kernel_rfl) (fun _ _ _ h=>h) (Or.inl ⟨by rfl,?_⟩) ?_ ?_
               rotate_left
               ·
                intro w'
                go_simp
                with_reducible rfl
               rotate_left
               ·
                simp only [Act.put,List.setIfInBounds_toArray,List.set_cons_zero,List.set_cons_succ,Yn,YA]
                rfl
               refine one_ (i:=6) (N:=none) #[true,true,true,true,true,true,true] rfl rfl (by kernel_rfl) (by decide) (fun K hK => ?_);have qC0:w59.cell? ⟨Yp,0,none⟩=some (.int .i64 Zo):=(Q8 Yx.out 0).trans rfl;have qAP:=Q9 Yx.out 0;have qxL:=ZI.out;have qxM:=ZJ.out;have qxN:=Yf.out;have qwZ:=KI.out;have qw0:=KJ.out;have qw1:=Y6.out;have qC1:w59.cell? ⟨Yp,1,none⟩=some (.int .i64 Zf):=(Q8 Yx.out 1).trans rfl;have qAQ:=Q9 Yx.out 1;have qxO:=ZI.out;have qxP:=ZJ.out;have qxQ:=Yf.out;have qw2:=KI.out;have qw3:=KJ.out;have qw4:=Y6.out;have qr9:w59.cell? ⟨Yp,2,none⟩=some (.int .i64 Zc):=(Q8 Yx.out 2).trans rfl;have qAR:=Q9 Yx.out 2;have qxR:=ZI.out;have qxS:=ZJ.out;have qxT:=Yf.out;have qw5:=KI.out;have qw6:=KJ.out;have qw7:=Y6.out;have qC2:w59.cell? ⟨Yp,3,none⟩=some (.int .i64 Z5):=(Q8 Yx.out 3).trans rfl;have qAS:=Q9 Yx.out 3;have qxU:=ZI.out;have qxV:=ZJ.out;have qxW:=Yf.out;have qw8:=KI.out;have qw9:=KJ.out;have qxa:=Y6.out;have qC3:w59.cell? ⟨Yp,4,none⟩=some (.int .i64 Z1):=(Q8 Yx.out 4).trans rfl;have qAT:=Q9 Yx.out 4;have qxX:=ZI.out;have qxY:=ZJ.out;have qxZ:=Yf.out;have qxb:=KI.out;have qxc:=KJ.out;have qxd:=Y6.out;have qC4:w59.cell? ⟨Yp,5,none⟩=some (.int .i64 YW):=(Q8 Yx.out 5).trans rfl;have qAU:=Q9 Yx.out 5;have qx0:=ZI.out;have qx1:=ZJ.out;have qx2:=Yf.out;have qxe:=KI.out;have qxf:=KJ.out;have qxg:=Y6.out;refine qkq (w1:=?_) (by rfl) rfl ?_ ?_
               rotate_left
               ·
                go_simp
                rfl
               refine hK.out _ _ ⟨((Qk (p:=⟨Yp,_,none⟩) Yf.out _).trans (((Qk (p:=⟨Yp,_,none⟩) Yf.out _).trans (((Qk (p:=⟨Yp,_,none⟩) Yf.out _).trans (((Qk (p:=⟨Yp,_,none⟩) Yf.out _).trans (((Qk (p:=⟨Yp,_,none⟩) Yf.out _).trans (((Qk (p:=⟨Yp,_,none⟩) Yf.out _).trans (hHeld.1)))))))))))),((Qk (p:=⟨Yp,_,none⟩) Yf.out _).trans (((Qk (p:=⟨Yp,_,none⟩) Yf.out _).trans (((Qk (p:=⟨Yp,_,none⟩) Yf.out _).trans (((Qk (p:=⟨Yp,_,none⟩) Yf.out _).trans (((Qk (p:=⟨Yp,_,none⟩) Yf.out _).trans (((Qk (p:=⟨Yp,_,none⟩) Yf.out _).trans (hHeld.2.1)))))))))))),((Qk (p:=⟨Yp,_,none⟩) Yf.out _).trans (((Qk (p:=⟨Yp,_,none⟩) Yf.out _).trans (((Qk (p:=⟨Yp,_,none⟩) Yf.out _).trans (((Qk (p:=⟨Yp,_,none⟩) Yf.out _).trans (((Qk (p:=⟨Yp,_,none⟩) Yf.out _).trans (((Qk (p:=⟨Yp,_,none⟩) Yf.out _).trans (hHeld.2.2.1)))))))))))),((Qk (p:=⟨Yp,_,none⟩) Yf.out _).trans (((Qk (p:=⟨Yp,_,none⟩) Yf.out _).trans (((Qk (p:=⟨Yp,_,none⟩) Yf.out _).trans (((Qk (p:=⟨Yp,_,none⟩) Yf.out _).trans (((Qk (p:=⟨Yp,_,none⟩) Yf.out _).trans (((Qk (p:=⟨Yp,_,none⟩) Yf.out _).trans (hHeld.2.2.2.1)))))))))))),((Qk (p:=⟨Yp,_,none⟩) Yf.out _).trans (((Qk (p:=⟨Yp,_,none⟩) Yf.out _).trans (((Qk (p:=⟨Yp,_,none⟩) Yf.out _).trans (((Qk (p:=⟨Yp,_,none⟩) Yf.out _).trans (((Qk (p:=⟨Yp,_,none⟩) Yf.out _).trans (((Qk (p:=⟨Yp,_,none⟩) Yf.out _).trans (hHeld.2.2.2.2.1)))))))))))),((Qk (p:=⟨Yp,_,none⟩) Yf.out _).trans (((Qk (p:=⟨Yp,_,none⟩) Yf.out _).trans (((Qk (p:=⟨Yp,_,none⟩) Yf.out _).trans (((Qk (p:=⟨Yp,_,none⟩) Yf.out _).trans (((Qk (p:=⟨Yp,_,none⟩) Yf.out _).trans (((Qk (p:=⟨Yp,_,none⟩) Yf.out _).trans (hHeld.2.2.2.2.2))))))))))))⟩ (fun hHeld => ?_);clear hK K;refine qez (by kernel_rfl) ?_
               try go_wp2
               go_roundg k4
               case measure=>have:=HJ3.out;have:=HK2.out;have:=Ui.out;have:=HK4.out;omega
               case rel=>exact ⟨(qsj),(wrap64 (J0+1)),(Ks),(t173),(O6),(t175),(OC),(UB),(by first|rfl|(simp;done)|(simp [*];done)),H',⟨by have:=HJ3.out;have:=HK2.out;have:=Ui.out;have:=HK4.out;omega⟩,⟨by (with_reducible repeat (first|apply Kd.R_alloc|apply Kd.R_drewN|apply Kd.R_drew));exact Kd.R_mono (Kd.R_far (p:=⟨Yp,5,none⟩) (Kd.R_far (p:=⟨Yp,4,none⟩) (Kd.R_far (p:=⟨Yp,3,none⟩) (Kd.R_far (p:=⟨Yp,2,none⟩) (Kd.R_far (p:=⟨Yp,1,none⟩) (Kd.R_far (p:=⟨Yp,0,none⟩) (Kd.R_types qpL.out Yx.out (by decide)) (fun _ hk=>hk.2) (.int .i64 Ks)) (fun _ hk=>hk.2) (.int .i64 t173)) (fun _ hk=>hk.2) (.int .i64 O6)) (fun _ hk=>hk.2) (.int .i64 t175)) (fun _ hk=>hk.2) (.int .i64 OC)) (fun _ hk=>hk.2) (.int .i64 UB)) (fun _ hk=>hk.1)⟩,⟨by (with_reducible repeat (first|refine Q4 ?_ _|refine Q6 ?_|refine Q3 ?_ _));refine Qm ?_ ZI.out _;(with_reducible repeat (first|refine Q4 ?_ _|refine Q6 ?_|refine Q3 ?_ _));refine Qm ?_ ZI.out _;(with_reducible repeat (first|refine Q4 ?_ _|refine Q6 ?_|refine Q3 ?_ _));refine Qm ?_ ZI.out _;(with_reducible repeat (first|refine Q4 ?_ _|refine Q6 ?_|refine Q3 ?_ _));refine Qm ?_ ZI.out _;(with_reducible repeat (first|refine Q4 ?_ _|refine Q6 ?_|refine Q3 ?_ _));refine Qm ?_ ZI.out _;(with_reducible repeat (first|refine Q4 ?_ _|refine Q6 ?_|refine Q3 ?_ _));refine Qm ?_ ZI.out _;(with_reducible repeat (first|refine Q4 ?_ _|refine Q6 ?_|refine Q3 ?_ _));exact YL.out⟩,⟨by (with_reducible repeat (first|refine Q4 ?_ _|refine Q6 ?_|refine Q3 ?_ _));refine Qm ?_ ZJ.out _;(with_reducible repeat (first|refine Q4 ?_ _|refine Q6 ?_|refine Q3 ?_ _));refine Qm ?_ ZJ.out _;(with_reducible repeat (first|refine Q4 ?_ _|refine Q6 ?_|refine Q3 ?_ _));refine Qm ?_ ZJ.out _;(with_reducible repeat (first|refine Q4 ?_ _|refine Q6 ?_|refine Q3 ?_ _));refine Qm ?_ ZJ.out _;(with_reducible repeat (first|refine Q4 ?_ _|refine Q6 ?_|refine Q3 ?_ _));refine Qm ?_ ZJ.out _;(with_reducible repeat (first|refine Q4 ?_ _|refine Q6 ?_|refine Q3 ?_ _));refine Qm ?_ ZJ.out _;(with_reducible repeat (first|refine Q4 ?_ _|refine Q6 ?_|refine Q3 ?_ _));exact QZ.out⟩,⟨by (with_reducible repeat (first|refine Q4 ?_ _|refine Q6 ?_|refine Q3 ?_ _));refine Qv (cs:=#[.int .i64 Ks,.int .i64 t173,.int .i64 O6,.int .i64 t175,.int .i64 OC,.int .i64 YW]) ?_ 5 _ rfl;(with_reducible repeat (first|refine Q4 ?_ _|refine Q6 ?_|refine Q3 ?_ _));refine Qv (cs:=#[.int .i64 Ks,.int .i64 t173,.int .i64 O6,.int .i64 t175,.int .i64 Z1,.int .i64 YW]) ?_ 4 _ rfl;(with_reducible repeat (first|refine Q4 ?_ _|refine Q6 ?_|refine Q3 ?_ _));refine Qv (cs:=#[.int .i64 Ks,.int .i64 t173,.int .i64 O6,.int .i64 Z5,.int .i64 Z1,.int .i64 YW]) ?_ 3 _ rfl;(with_reducible repeat (first|refine Q4 ?_ _|refine Q6 ?_|refine Q3 ?_ _));refine Qv (cs:=#[.int .i64 Ks,.int .i64 t173,.int .i64 Zc,.int .i64 Z5,.int .i64 Z1,.int .i64 YW]) ?_ 2 _ rfl;(with_reducible repeat (first|refine Q4 ?_ _|refine Q6 ?_|refine Q3 ?_ _));refine Qv (cs:=#[.int .i64 Ks,.int .i64 Zf,.int .i64 Zc,.int .i64 Z5,.int .i64 Z1,.int .i64 YW]) ?_ 1 _ rfl;(with_reducible repeat (first|refine Q4 ?_ _|refine Q6 ?_|refine Q3 ?_ _));refine Qv (cs:=#[.int .i64 Zo,.int .i64 Zf,.int .i64 Zc,.int .i64 Z5,.int .i64 Z1,.int .i64 YW]) ?_ 0 _ rfl;(with_reducible repeat (first|refine Q4 ?_ _|refine Q6 ?_|refine Q3 ?_ _));exact Yx.out⟩,⟨by repeat (first|(with_reducible first|exact HB.out|apply Q2|apply Q0|apply Q5|refine Q7 ?_ ZN.out|refine Q7 ?_ ZV.out|refine Q7 ?_ O3.out|refine Q7 ?_ UW.out)|exact HB.out)⟩⟩
              rw [if_neg c46] at H
              exact absurd H (by simp)
             rw [if_neg c44] at H
             exact absurd H (by simp)
            rw [if_neg c43] at H
            exact absurd H (by simp)
           rw [if_neg c42] at H
           exact absurd H (by simp)
          rw [if_neg c41] at H;have c41b0:decide (J0<(l1.length:Int))=false:=decide_eq_false c41;clear c41
          by_cases c66:0≤(G6.length:Int)
          ·
           rw [if_pos c66] at H;have c66b0:=eq_true c66;have c66b1:decide (0≤(G6.length:Int))=true:=decide_eq_true c66;clear c66
           by_cases c67:(G6.length:Int)≤(G6.length:Int)
           ·
            rw [if_pos c67] at H;have c67b0:=eq_true c67;have c67b1:decide ((G6.length:Int)≤(G6.length:Int))=true:=decide_eq_true c67;clear c67;obtain ⟨qpk,qeJ⟩:∃ y_:List Int,y_=(G6.take ((G6.length:Int):Int).toNat):=⟨_,rfl⟩
            replace H:(some (qpk,0))=some (r1,r2):=by first|(rw [qeJ];with_reducible exact H)|(have H2_:=(Option.bind_some _ _).symm.trans H;rw [qeJ];with_reducible exact H2_)|(have H2_:=(Option.bind_some _ _).symm.trans H;with_reducible exact H2_)|with_reducible exact H|(rw [qeJ];exact H)|exact H
            have qnj:=Q1.mk qeJ;clear qeJ;simp only [Option.some.injEq,Prod.mk.injEq] at H;obtain ⟨rfl,rfl⟩:=H;obtain ⟨qyt,qyR,qzu⟩:=Kd.R_slice HO_13.out;subst qzu;have q69:((G6.length:Int):Int)≤((G6.length:Int):Int):=of_decide_eq_true (by first|(with_reducible assumption)|assumption);obtain ⟨qDb,qnO,_,qsa,_⟩:=info_parts XU;have qzy:=Ux (P:=Try.prog) 37 3 Try.underlying37 qnO qyt G6.length qyR (Kd.R_reads' HO_13.out).2.1;have qoS:=Kd.R_take (m:=((G6.length:Int):Int).toNat) HO_13.out (by omega);have qse:qpk.length=((G6.length:Int):Int).toNat:=(by rw [qnj.out,List.length_take];omega);rw [← qnj.out] at qoS
            have qsf:G6.length=qpk.length:=by rw [qse];omega
            have qyy:=Q1.mk qsf;clear qse qsf qnO qsa HO_13;have qpM:=Q1.mk qoS;clear qoS;replace q69:=eq_true q69
            go_wp2
            go_ret2
            exact ⟨_,by first|rfl|(simp [Qs,Qt]<;>rfl)|(simp [*,Qs,Qt]<;>rfl),qjk (by (with_reducible repeat (first|apply Kd.R_alloc|apply Kd.R_drewN|apply Kd.R_drew));exact qpM.out) _ qyy.out,by repeat (first|(with_reducible first|exact HB.out|apply Q2|apply Q0|apply Q5|refine Q7 ?_ ZN.out|refine Q7 ?_ ZV.out|refine Q7 ?_ O3.out)|exact HB.out)⟩
           rw [if_neg c67] at H
           exact absurd H (by simp)
          rw [if_neg c66] at H
          exact absurd H (by simp)
       replace c32:=Bool.eq_false_iff.mpr c32;subst c32
       have H1:(some (([]:List Int),92))=some (r1,r2):=by rw [if_neg (show ¬ (false=true) by decide)] at H;exact H
       clear H;have H:=H1;clear H1;simp only [Option.some.injEq,Prod.mk.injEq] at H;obtain ⟨rfl,rfl⟩:=H
       go_wp2
       go_ret2
       exact ⟨_,by first|rfl|(simp [Qs,Qt]<;>rfl)|(simp [*,Qs,Qt]<;>rfl),(by first|exact Kd.V_nil _ _ _ _ _|(show Kd.V _ _ _ _ _ (.slice none 0 0) [];exact Kd.V_nil _ _ _ _ _)),by repeat (first|(with_reducible first|exact HB.out|apply Q2|apply Q0|apply Q5|refine Q7 ?_ ZN.out|refine Q7 ?_ ZV.out)|exact HB.out)⟩
end
section
attribute [local go_sem] Yr Yt YM YN Yi Yj Ys Yu
mutual
def Qo.j0:Nat→Int→Bool→List (S39)→List Int→List (List (List Int))→Option (Int)
 | 0,_,_,_,_,_=>none
 | k+1,x3,x4,Zy,ZT,ZB=>Qo.l0 k x3 x4 0 Zy ZT ZB
def Qo.l0:Nat→Int→Bool→Int→List (S39)→List Int→List (List (List Int))→Option (Int)
 | 0,_,_,_,_,_,_=>none
 | k+1,x3,x4,x5,Zy,ZT,ZB=>if x4=true then (Qo.j2 k x3 x4 x5 (decide (x5<x3)) Zy ZT ZB) else (Qo.j2 k x3 x4 x5 false Zy ZT ZB)
def Qo.j2:Nat→Int→Bool→Int→Bool→List (S39)→List Int→List (List (List Int))→Option (Int)
 | 0,_,_,_,_,_,_,_=>none
 | k+1,x3,x4,x5,x35,Zy,ZT,ZB=>if x35=true then (if 0≤x5 then (if x5<(Zy.length:Int) then ((Qn.f k ((Qc Zy x5).f0) ((Qc Zy x5).f1) ((Qc Zy x5).f2) ((Qc Zy x5).f3) ((Qc Zy x5).f4)).bind fun qiR=>(if qiR=true then (if x5<(ZT.length:Int) then ((Ql.f (rd ZT x5) 0 100).bind fun t193=>(Qo.l0 k x3 t193 (wrap64 (x5+1)) Zy ZT ZB)) else (none)) else (Qo.l0 k x3 false (wrap64 (x5+1)) Zy ZT ZB))) else (none)) else (none)) else (Qo.l1 k x3 x4 ZB (ZB.length:Int) 0 Zy ZT ZB)
def Qo.l1:Nat→Int→Bool→List (List (List Int))→Int→Int→List (S39)→List Int→List (List (List Int))→Option (Int)
 | 0,_,_,_,_,_,_,_,_=>none
 | k+1,x3,x4,x54,x55,x56,Zy,ZT,ZB=>if x56<x55 then (if 0≤x56 then (if x56<(x54.length:Int) then (if x4=true then (Qo.j4 k x3 (((QE x54 x56).length:Int)==x3) (QE x54 x56) x54 x55 x56 Zy ZT ZB) else (Qo.j4 k x3 false (QE x54 x56) x54 x55 x56 Zy ZT ZB)) else (none)) else (none)) else (if x4=true then (some 0) else (some 93))
def Qo.j4:Nat→Int→Bool→List (List Int)→List (List (List Int))→Int→Int→List (S39)→List Int→List (List (List Int))→Option (Int)
 | 0,_,_,_,_,_,_,_,_,_=>none
 | k+1,x3,x4,x7,x54,x55,x56,Zy,ZT,ZB=>Qo.l2 k x3 x4 x54 x55 x56 x7 (x7.length:Int) 0 Zy ZT ZB
def Qo.l2:Nat→Int→Bool→List (List (List Int))→Int→Int→List (List Int)→Int→Int→List (S39)→List Int→List (List (List Int))→Option (Int)
 | 0,_,_,_,_,_,_,_,_,_,_,_=>none
 | k+1,x3,x4,x54,x55,x56,x67,x68,x69,Zy,ZT,ZB=>if x69<x68 then (if 0≤x69 then (if x69<(x67.length:Int) then (if x4=true then ((Ql.f ((Y5 x67 x69).length:Int) 1 10).bind fun t196=>(if t196=true then (if 0<(ZB.length:Int) then (if 0<((QE ZB 0).length:Int) then (Qo.j6 k x3 (((Y5 x67 x69).length:Int)==((Y5 (QE ZB 0) 0).length:Int)) (Y5 x67 x69) x54 x55 x56 x67 x68 x69 Zy ZT ZB) else (none)) else (none)) else (Qo.j6 k x3 false (Y5 x67 x69) x54 x55 x56 x67 x68 x69 Zy ZT ZB))) else (Qo.j6 k x3 false (Y5 x67 x69) x54 x55 x56 x67 x68 x69 Zy ZT ZB)) else (none)) else (none)) else (Qo.l1 k x3 x4 x54 x55 (wrap64 (x56+1)) Zy ZT ZB)
def Qo.j6:Nat→Int→Bool→List Int→List (List (List Int))→Int→Int→List (List Int)→Int→Int→List (S39)→List Int→List (List (List Int))→Option (Int)
 | 0,_,_,_,_,_,_,_,_,_,_,_,_=>none
 | k+1,x3,x4,x9,x54,x55,x56,x67,x68,x69,Zy,ZT,ZB=>Qo.l3 k x3 x4 x54 x55 x56 x67 x68 x69 x9 (x9.length:Int) 0 Zy ZT ZB
def Qo.l3:Nat→Int→Bool→List (List (List Int))→Int→Int→List (List Int)→Int→Int→List Int→Int→Int→List (S39)→List Int→List (List (List Int))→Option (Int)
 | 0,_,_,_,_,_,_,_,_,_,_,_,_,_,_=>none
 | k+1,x3,x4,x54,x55,x56,x67,x68,x69,x91,x92,x93,Zy,ZT,ZB=>if x93<x92 then (if 0≤x93 then (if x93<(x91.length:Int) then (if x4=true then ((Ql.f (rd x91 x93) 0 100000).bind fun qgU=>(Qo.l3 k x3 qgU x54 x55 x56 x67 x68 x69 x91 x92 (wrap64 (x93+1)) Zy ZT ZB)) else (Qo.l3 k x3 false x54 x55 x56 x67 x68 x69 x91 x92 (wrap64 (x93+1)) Zy ZT ZB)) else (none)) else (none)) else (Qo.l2 k x3 x4 x54 x55 x56 x67 x68 (wrap64 (x69+1)) Zy ZT ZB)
end
def Qo.f (k:Nat) (Qb:List (S39)) (Qi:List Int) (Qd:List (List (List Int))):Option (Int):=(Ql.f (Qb.length:Int) 1 3).bind fun qiQ=>(if qiQ=true then (if (Qi.length:Int)=(Qb.length:Int) then ((Ql.f (Qd.length:Int) 1 6).bind fun qcb=>(Qo.j0 k (Qb.length:Int) qcb Qb Qi Qd)) else (Qo.j0 k (Qb.length:Int) false Qb Qi Qd)) else (Qo.j0 k (Qb.length:Int) false Qb Qi Qd))
set_option maxHeartbeats 8000000 in
set_option maxRecDepth 100000 in
theorem Qo.calls (k:Nat) (Y4:Option Addr) (QG:Nat) (Qb:List (S39)) (Y2:Option Addr) (QI:Nat) (Qi:List Int) (Y7:Option Addr) (QJ:Nat) (Qd:List (List (List Int))) (r:Int) (w:World) (Gl:Kd.C k39 w Y4 Qb.length Qb) (GA:Qb.length≤QG) (Gm:Kd.C (Kd.int .i64) w Y2 Qi.length Qi) (GC:Qi.length≤QI) (Gn:Kd.C (Kd.slice 37 (Kd.slice 3 (Kd.int .i64))) w Y7 Qd.length Qd) (GD:Qd.length≤QJ) (h:Qo.f k Qb Qi Qd=some r) :
  Calls Try.prog 30 #[.agg #[.slice Y4 Qb.length QG,.slice Y2 Qi.length QI,.slice Y7 Qd.length QJ]] w fun e w'=>e = .returned (.int .i64 r)∧Below w.heap.size w w':=by
 have qoT:=Try.underlying47
 have qmj:=Try.underlying39
 have qj2:=Try.underlying111
 have Jr:=Q1.mk Gl
 have JK:=Q1.mk GA
 clear Gl GA
 have Jz:=Q1.mk Gm
 have JL:=Q1.mk GC
 clear Gm GC
 have JA:=Q1.mk Gn
 have JM:=Q1.mk GD
 clear Gn GD
 have HB:=Q1.mk (Below.refl w.heap.size w)
 have H:((Ql.f (Qb.length:Int) 1 3).bind fun qiQ=>(if qiQ=true then (if (Qi.length:Int)=(Qb.length:Int) then ((Ql.f (Qd.length:Int) 1 6).bind fun qcb=>(Qo.j0 k (Qb.length:Int) qcb Qb Qi Qd)) else (Qo.j0 k (Qb.length:Int) false Qb Qi Qd)) else (Qo.j0 k (Qb.length:Int) false Qb Qi Qd)))=some r:=h
 clear h
 have HC2:=Q1.mk H
 clear H
 go_enter Try.func30,Try.ntmps30
 go_upto_region 2 with (first|((with_reducible refine Y0 (N:=1) rfl ?_);(try (refine Ke (by rfl) ?_;dsimp only));refine Yv ?hg (N:=1) ?hd (cs:=#[.slice Y4 Qb.length QG,.slice Y2 Qi.length QI,.slice Y7 Qd.length QJ]) (t:=47) ?hr ?_;(case hd=>rfl);(case hg=>rfl);(case hr=>first|(go_simp;done)|(go_simp;rfl));intro Jj hg w3 hbox hb;have n0_:=Q1.mk (Qj (by repeat (first|(with_reducible first|exact HB.out|apply Q2|apply Q0|apply Q5)|exact HB.out)) hb);have n1_:=Q1.mk (hbox);have n2_:=Q1.mk ((by rw [hg];exact (Qe (by repeat (first|(with_reducible first|exact HB.out|apply Q2|apply Q0|apply Q5)|exact HB.out))):w.heap.size≤Jj));have n3_:=n2_;clear HB;have HB:=n0_;have YK:=n1_;have qAg:=n2_;have Gb:=n3_;clear n0_ n1_ n2_ n3_ hb hbox hg;have GF:w3.cell? ⟨Jj,0,none⟩=some (.slice Y4 Qb.length QG):=(Q8 YK.out 0).trans rfl;have GG:w3.cell? ⟨Jj,1,none⟩=some (.slice Y2 Qi.length QI):=(Q8 YK.out 1).trans rfl;have Kf:w3.cell? ⟨Jj,2,none⟩=some (.slice Y7 Qd.length QJ):=(Q8 YK.out 2).trans rfl;have GH:=Q9 YK.out 0;have GI:=Q9 YK.out 1;have Kj:=Q9 YK.out 2))
 (try simp only [Act.put,List.setIfInBounds_toArray,List.set_cons_zero,List.set_cons_succ])
 go_cut [4] (fun v4 wc => ∃ (kq:Nat) (qan:Bool),v4 = .bool qan∧Q1 (Qo.j0 kq (Qb.length:Int) qan Qb Qi Qd=some r)∧Q1 (kq≤k)∧Q1 (wc.heap[Jj]? = some (.cells #[(.slice Y4 Qb.length QG),(.slice Y2 Qi.length QI),(.slice Y7 Qd.length QJ)] 47 (0,0)))∧Q1 (Below w.heap.size w wc))
 case first =>
  have H:=HC2.out
  clear HC2
  replace H:=Option.bind_eq_some_iff.mp H
  obtain ⟨qiQ,A50,H⟩:=H
  replace H:(if qiQ=true then (if (Qi.length:Int)=(Qb.length:Int) then ((Ql.f (Qd.length:Int) 1 6).bind fun qcb=>(Qo.j0 k (Qb.length:Int) qcb Qb Qi Qd)) else (Qo.j0 k (Qb.length:Int) false Qb Qi Qd)) else (Qo.j0 k (Qb.length:Int) false Qb Qi Qd))=some r:=H
  have A5:=Q1.mk A50
  clear A50
  by_cases c6:qiQ=true
  ·
   subst c6
   have H1:(if (Qi.length:Int)=(Qb.length:Int) then ((Ql.f (Qd.length:Int) 1 6).bind fun qcb=>(Qo.j0 k (Qb.length:Int) qcb Qb Qi Qd)) else (Qo.j0 k (Qb.length:Int) false Qb Qi Qd))=some r:=by rw [if_pos rfl] at H;exact H
   clear H
   have H:=H1
   clear H1
   by_cases c7:(Qi.length:Int)=(Qb.length:Int)
   ·
    rw [if_pos c7] at H;have c7b0:((Qi.length:Int)==(Qb.length:Int))=true:=beq_iff_eq.mpr c7;have c7b1:((Qi.length:Int) != (Qb.length:Int))=false:=bne_eq_false_iff_eq.mpr c7
    have c7b2:(Qi.length==Qb.length)=true:=by first|simpa using c7|(simp at c7 ⊢;omega)
    clear c7
    (first|rw [c7b0]|(simp only [Yn,YA];rw [c7b0])|skip)
    replace H:=Option.bind_eq_some_iff.mp H;obtain ⟨qcb,A80,H⟩:=H;replace H:(Qo.j0 k (Qb.length:Int) qcb Qb Qi Qd)=some r:=H;have A8:=Q1.mk A80;clear A80;have H':=Q1.mk H;clear H
    go_wp2_with (first|((with_reducible refine Qp (f:=65) rfl ?_);refine Yd (some 16) rfl rfl Try.func65 (by kernel_rfl) rfl #[.int .i64 (Qb.length:Int),.int .i64 1,.int .i64 3] rfl (by (try simp only [List.map_toArray,List.map_cons,List.map_nil]);first|done|rfl|(simp only [List.length_drop,List.length_take];rfl)) ?_;(with_reducible refine (Ql.calls (Qb.length:Int) 1 3 true _ A5.out).mono ?_);rintro e w' ⟨rfl,⟨nd,rfl⟩⟩;refine ⟨_,rfl,?_⟩;have Kg:w3.cell? ⟨Jj,0,none⟩=some (.slice Y4 Qb.length QG):=(Q8 YK.out 0).trans rfl;have Kh:w3.cell? ⟨Jj,1,none⟩=some (.slice Y2 Qi.length QI):=(Q8 YK.out 1).trans rfl;have Ki:w3.cell? ⟨Jj,2,none⟩=some (.slice Y7 Qd.length QJ):=(Q8 YK.out 2).trans rfl;have Kk:=Q9 YK.out 0;have Kl:=Q9 YK.out 1;have Km:=Q9 YK.out 2)|(go_at_call 65;(with_reducible refine (Ql.calls (Qd.length:Int) 1 6 qcb _ A8.out).mono ?_);rintro e w' ⟨rfl,⟨nd,rfl⟩⟩))
    go_meet
    case rel=>exact ⟨_,(qcb),(by first|rfl|(simp;done)|(simp [*];done)),H',⟨by first|omega|exact Nat.le_refl _⟩,⟨by (with_reducible repeat (first|refine Q4 ?_ _|refine Q6 ?_|refine Q3 ?_ _));exact YK.out⟩,⟨by repeat (first|(with_reducible first|exact HB.out|apply Q2|apply Q0|apply Q5|refine Q7 ?_ Gb.out)|exact HB.out)⟩⟩
   rw [if_neg c7] at H
   have c7b0:((Qi.length:Int)==(Qb.length:Int))=false:=beq_eq_false_iff_ne.mpr c7
   have c7b1:((Qi.length:Int) != (Qb.length:Int))=true:=bne_iff_ne.mpr c7
   have c7b2:(Qi.length==Qb.length)=false:=by first|simpa using c7|(simp at c7 ⊢;omega)
   (first|rw [c7b0]|(simp only [Yn,YA];rw [c7b0])|skip)
   have H':=Q1.mk H
   clear H
   go_wp2_with (first|((with_reducible refine Qp (f:=65) rfl ?_);refine Yd (some 16) rfl rfl Try.func65 (by kernel_rfl) rfl #[.int .i64 (Qb.length:Int),.int .i64 1,.int .i64 3] rfl (by (try simp only [List.map_toArray,List.map_cons,List.map_nil]);first|done|rfl|(simp only [List.length_drop,List.length_take];rfl)) ?_;(with_reducible refine (Ql.calls (Qb.length:Int) 1 3 true _ A5.out).mono ?_);rintro e w' ⟨rfl,⟨nd,rfl⟩⟩;refine ⟨_,rfl,?_⟩;have Gv:w3.cell? ⟨Jj,0,none⟩=some (.slice Y4 Qb.length QG):=(Q8 YK.out 0).trans rfl;have Gw:w3.cell? ⟨Jj,1,none⟩=some (.slice Y2 Qi.length QI):=(Q8 YK.out 1).trans rfl;have GR:w3.cell? ⟨Jj,2,none⟩=some (.slice Y7 Qd.length QJ):=(Q8 YK.out 2).trans rfl;have Gx:=Q9 YK.out 0;have Gy:=Q9 YK.out 1;have GT:=Q9 YK.out 2))
   go_meet
   case rel=>exact ⟨_,(false),(by first|rfl|(simp;done)|(simp [*];done)),H',⟨by first|omega|exact Nat.le_refl _⟩,⟨by (with_reducible repeat (first|refine Q4 ?_ _|refine Q6 ?_|refine Q3 ?_ _));exact YK.out⟩,⟨by repeat (first|(with_reducible first|exact HB.out|apply Q2|apply Q0|apply Q5|refine Q7 ?_ Gb.out)|exact HB.out)⟩⟩
  replace c6:=Bool.eq_false_iff.mpr c6
  subst c6
  have H1:(Qo.j0 k (Qb.length:Int) false Qb Qi Qd)=some r:=by rw [if_neg (show ¬ (false=true) by decide)] at H;exact H
  clear H
  have H:=H1
  clear H1
  have H':=Q1.mk H
  clear H
  go_wp2_with (first|((with_reducible refine Qp (f:=65) rfl ?_);refine Yd (some 16) rfl rfl Try.func65 (by kernel_rfl) rfl #[.int .i64 (Qb.length:Int),.int .i64 1,.int .i64 3] rfl (by (try simp only [List.map_toArray,List.map_cons,List.map_nil]);first|done|rfl|(simp only [List.length_drop,List.length_take];rfl)) ?_;(with_reducible refine (Ql.calls (Qb.length:Int) 1 3 false _ A5.out).mono ?_);rintro e w' ⟨rfl,⟨nd,rfl⟩⟩;refine ⟨_,rfl,?_⟩))
  go_meet
  case rel=>exact ⟨_,(false),(by first|rfl|(simp;done)|(simp [*];done)),H',⟨by first|omega|exact Nat.le_refl _⟩,⟨by (with_reducible repeat (first|refine Q4 ?_ _|refine Q6 ?_|refine Q3 ?_ _));exact YK.out⟩,⟨by repeat (first|(with_reducible first|exact HB.out|apply Q2|apply Q0|apply Q5|refine Q7 ?_ Gb.out)|exact HB.out)⟩⟩
 case rest =>
  clear HC2
  try clear p2
  try clear c3
  try clear c6
  try clear c7
  try clear c7b0
  try clear c7b1
  try clear c7b2
  try clear Gv
  try clear Gw
  try clear GR
  try clear GF
  try clear GG
  try clear Kf
  try clear Kg
  try clear Kh
  try clear Ki
  try clear Gx
  try clear Gy
  try clear GT
  try clear GH
  try clear GI
  try clear Kj
  try clear Kk
  try clear Kl
  try clear Km
  obtain ⟨kq,qan,rfl,HA,HJ1,YK,HB⟩:=hcut
  cases kq with
  | zero=>exact absurd HA.out (by simp [Qo.j0])
  | succ kj1 =>
   have H:=HA.out
   clear HA
   simp only [Qo.j0] at H
   have H':=Q1.mk H
   clear H
   go_wp2
   go_loopg [4,5] kj1 (fun kq v4 v5 w' => ∃ (OA:Bool) (Yk:Int),v4 = .bool OA∧v5 = .int .i64 Yk∧Q1 (Qo.l0 kq (Qb.length:Int) OA Yk Qb Qi Qd=some r)∧Q1 (kq≤kj1)∧Q1 (w'.heap[Jj]? = some (.cells #[(.slice Y4 Qb.length QG),(.slice Y2 Qi.length QI),(.slice Y7 Qd.length QJ)] 47 (0,0)))∧Q1 (Below w.heap.size w w'))
   case atStart=>exact ⟨(qan),(0),(by first|rfl|(simp;done)|(simp [*];done)),(by first|rfl|(simp;done)|(simp [*];done)),H',⟨Nat.le_refl _⟩,⟨by (with_reducible repeat (first|refine Q4 ?_ _|refine Q6 ?_|refine Q3 ?_ _));exact YK.out⟩,⟨by repeat (first|(with_reducible first|exact HB.out|apply Q2|apply Q0|apply Q5|refine Q7 ?_ Gb.out)|exact HB.out)⟩⟩
   case round =>
    clear H';(try clear p2);(try clear c3);(try clear c6);(try clear c7);(try clear c7b0);(try clear c7b1);(try clear c7b2);(try clear Gv);(try clear Gw);(try clear GR);(try clear GF);(try clear GG);(try clear Kf);(try clear Kg);(try clear Kh);(try clear Ki);(try clear Gx);(try clear Gy);(try clear GT);(try clear GH);(try clear GI);(try clear Kj);(try clear Kk);(try clear Kl);(try clear Km);(try clear p2);obtain ⟨OA,Yk,rfl,rfl,HA,HK2,YK,HB⟩:=hrel
    cases gk with
    | zero=>exact absurd HA.out (by simp [Qo.l0])
    | succ k2 =>
     have H:=HA.out;clear HA;simp only [Qo.l0] at H;have qn9:=Q1.mk H;clear H
     go_upto_region 4 with (fail)
     go_cut [35] (fun v35 wc => ∃ (kq:Nat) (qec:Bool),v35 = .bool qec∧Q1 (Qo.j2 kq (Qb.length:Int) OA Yk qec Qb Qi Qd=some r)∧Q1 (kq≤k2)∧Q1 (wc.heap[Jj]? = some (.cells #[(.slice Y4 Qb.length QG),(.slice Y2 Qi.length QI),(.slice Y7 Qd.length QJ)] 47 (0,0)))∧Q1 (Below w.heap.size w wc))
     case first =>
      have H:=qn9.out;clear qn9
      by_cases c12:OA=true
      ·
       subst c12
       have H1:(Qo.j2 k2 (Qb.length:Int) true Yk (decide (Yk<(Qb.length:Int))) Qb Qi Qd)=some r:=by rw [if_pos rfl] at H;exact H
       clear H;have H:=H1;clear H1;have H':=Q1.mk H;clear H
       go_wp2
       go_meet
       case rel=>exact ⟨_,(decide (Yk<(Qb.length:Int))),(by first|rfl|(simp;done)|(simp [*];done)),H',⟨by have:=HJ1.out;have:=HK2.out;first|omega|exact Nat.le_refl _⟩,⟨by (with_reducible repeat (first|refine Q4 ?_ _|refine Q6 ?_|refine Q3 ?_ _));exact YK.out⟩,⟨by repeat (first|(with_reducible first|exact HB.out|apply Q2|apply Q0|apply Q5|refine Q7 ?_ Gb.out)|exact HB.out)⟩⟩
      replace c12:=Bool.eq_false_iff.mpr c12;subst c12
      have H1:(Qo.j2 k2 (Qb.length:Int) false Yk false Qb Qi Qd)=some r:=by rw [if_neg (show ¬ (false=true) by decide)] at H;exact H
      clear H;have H:=H1;clear H1;have H':=Q1.mk H;clear H
      go_wp2
      go_meet
      case rel=>exact ⟨_,(false),(by first|rfl|(simp;done)|(simp [*];done)),H',⟨by have:=HJ1.out;have:=HK2.out;first|omega|exact Nat.le_refl _⟩,⟨by (with_reducible repeat (first|refine Q4 ?_ _|refine Q6 ?_|refine Q3 ?_ _));exact YK.out⟩,⟨by repeat (first|(with_reducible first|exact HB.out|apply Q2|apply Q0|apply Q5|refine Q7 ?_ Gb.out)|exact HB.out)⟩⟩
     case rest =>
      clear qn9;(try clear c1);(try clear p2);(try clear c3);(try clear c6);(try clear c7);(try clear c7b0);(try clear c7b1);(try clear c7b2);(try clear c12);(try clear Gv);(try clear Gw);(try clear GR);(try clear GF);(try clear GG);(try clear Kf);(try clear Kg);(try clear Kh);(try clear Ki);(try clear Gx);(try clear Gy);(try clear GT);(try clear GH);(try clear GI);(try clear Kj);(try clear Kk);(try clear Kl);(try clear Km);(try clear p2);obtain ⟨kq,qec,rfl,HA,W5,YK,HB⟩:=hcut
      cases kq with
      | zero=>exact absurd HA.out (by simp [Qo.j2])
      | succ X0 =>
       have H:=HA.out;clear HA;simp only [Qo.j2] at H
       by_cases c13:qec=true
       ·
        subst c13
        have H1:(if 0≤Yk then (if Yk<(Qb.length:Int) then ((Qn.f X0 ((Qc Qb Yk).f0) ((Qc Qb Yk).f1) ((Qc Qb Yk).f2) ((Qc Qb Yk).f3) ((Qc Qb Yk).f4)).bind fun qiR=>(if qiR=true then (if Yk<(Qi.length:Int) then ((Ql.f (rd Qi Yk) 0 100).bind fun t193=>(Qo.l0 X0 (Qb.length:Int) t193 (wrap64 (Yk+1)) Qb Qi Qd)) else (none)) else (Qo.l0 X0 (Qb.length:Int) false (wrap64 (Yk+1)) Qb Qi Qd))) else (none)) else (none))=some r:=by rw [if_pos rfl] at H;exact H
        clear H;have H:=H1;clear H1
        by_cases c14:0≤Yk
        ·
         rw [if_pos c14] at H;have c14b0:decide (0≤Yk)=true:=decide_eq_true c14;clear c14
         by_cases c15:Yk<(Qb.length:Int)
         ·
          rw [if_pos c15] at H;have c15b0:decide (Yk<(Qb.length:Int))=true:=decide_eq_true c15;clear c15;replace H:=Option.bind_eq_some_iff.mp H;obtain ⟨qiR,qpo,H⟩:=H;replace H:(if qiR=true then (if Yk<(Qi.length:Int) then ((Ql.f (rd Qi Yk) 0 100).bind fun t193=>(Qo.l0 X0 (Qb.length:Int) t193 (wrap64 (Yk+1)) Qb Qi Qd)) else (none)) else (Qo.l0 X0 (Qb.length:Int) false (wrap64 (Yk+1)) Qb Qi Qd))=some r:=H;have A16:=Q1.mk qpo;clear qpo
          by_cases c17:qiR=true
          ·
           subst c17
           have H1:(if Yk<(Qi.length:Int) then ((Ql.f (rd Qi Yk) 0 100).bind fun t193=>(Qo.l0 X0 (Qb.length:Int) t193 (wrap64 (Yk+1)) Qb Qi Qd)) else (none))=some r:=by rw [if_pos rfl] at H;exact H
           clear H;have H:=H1;clear H1
           by_cases c18:Yk<(Qi.length:Int)
           ·
            rw [if_pos c18] at H;have c18b0:decide (Yk<(Qi.length:Int))=true:=decide_eq_true c18;clear c18;replace H:=Option.bind_eq_some_iff.mp H;obtain ⟨t193,qpp,H⟩:=H;replace H:(Qo.l0 X0 (Qb.length:Int) t193 (wrap64 (Yk+1)) Qb Qi Qd)=some r:=H;have A19:=Q1.mk qpp;clear qpp;have H':=Q1.mk H;clear H;have Xo:wc.cell? ⟨Jj,0,none⟩=some (.slice Y4 Qb.length QG):=(Q8 YK.out 0).trans rfl;have Xp:wc.cell? ⟨Jj,1,none⟩=some (.slice Y2 Qi.length QI):=(Q8 YK.out 1).trans rfl;have Xq:wc.cell? ⟨Jj,2,none⟩=some (.slice Y7 Qd.length QJ):=(Q8 YK.out 2).trans rfl;have Xz:=Q9 YK.out 0;have XA:=Q9 YK.out 1;have XB:=Q9 YK.out 2;have qaU:0≤(Yk:Int):=of_decide_eq_true (by first|(with_reducible assumption)|assumption);have qaV:Yk<(Qb.length:Int):=of_decide_eq_true (by first|(with_reducible assumption)|assumption);obtain ⟨qhn,qfK,qfV,qfL,qfW,qfM,qfX,e190,GU,GV,GX,GY,GZ,XN,XJ,XO,XK,XP,XL⟩:=qfS Jr.out Yk qaU qaV;cases e190;replace GU:=(HB.out.cell (World.block_lt_of_cell? w _ GU)).trans GU;replace GV:=(HB.out.cell (World.block_lt_of_cell? w _ GV)).trans GV;replace GX:=(HB.out.cell (World.block_lt_of_cell? w _ GX)).trans GX;replace GY:=(HB.out.cell (World.block_lt_of_cell? w _ GY)).trans GY;replace GZ:=(HB.out.cell (World.block_lt_of_cell? w _ GZ)).trans GZ;have qcX:=Q1.mk XJ;have qcU:=Q1.mk XN;clear XJ XN;have qcY:=Q1.mk XK;have qcV:=Q1.mk XO;clear XK XO;have qcZ:=Q1.mk XL;have qcW:=Q1.mk XP;clear XL XP;replace qaU:=eq_true qaU;replace qaV:=eq_true qaV
            go_wp2_with (first|((with_reducible refine Qp (f:=76) rfl ?_);refine Yd (some 44) rfl rfl Try.func76 (by kernel_rfl) rfl #[.agg #[.slice qfK ((Qc Qb Yk).f0).length qfV,.slice qfL ((Qc Qb Yk).f1).length qfW,.slice qfM ((Qc Qb Yk).f2).length qfX,.int .i64 ((Qc Qb Yk).f3),.int .i64 ((Qc Qb Yk).f4)]] rfl (by (try simp only [List.map_toArray,List.map_cons,List.map_nil]);first|done|rfl|(simp only [List.length_drop,List.length_take];rfl)) ?_;(with_reducible refine (Qn.calls X0 _ _ ((Qc Qb Yk).f0) _ _ ((Qc Qb Yk).f1) _ _ ((Qc Qb Yk).f2) ((Qc Qb Yk).f3) ((Qc Qb Yk).f4) true _ ?side1 ?side2 ?side3 ?side4 ?side5 ?side6 A16.out).mono ?_);(case side1=>repeat (first|exact (Kd.C_below qcX.out HB.out)|(with_reducible refine Kd.C_alloc ?_ _)|(with_reducible refine Kd.C_drewN ?_ _)|(with_reducible refine Kd.C_drew ?_)));(case side2=>exact qcU.out);(case side3=>repeat (first|exact (Kd.C_below qcY.out HB.out)|(with_reducible refine Kd.C_alloc ?_ _)|(with_reducible refine Kd.C_drewN ?_ _)|(with_reducible refine Kd.C_drew ?_)));(case side4=>exact qcV.out);(case side5=>repeat (first|exact (Kd.C_below qcZ.out HB.out)|(with_reducible refine Kd.C_alloc ?_ _)|(with_reducible refine Kd.C_drewN ?_ _)|(with_reducible refine Kd.C_drew ?_)));(case side6=>exact qcW.out);rintro e w21 ⟨rfl,hb⟩;refine ⟨_,rfl,?_⟩;have n0_:=Q1.mk (Qf (g:=Jj) (by (with_reducible repeat (first|refine Q4 ?_ _|refine Q6 ?_|refine Q3 ?_ _));exact YK.out) hb);have n1_:=Q1.mk (Qj (by repeat (first|(with_reducible first|exact HB.out|apply Q2|apply Q0|apply Q5|refine Q7 ?_ Gb.out)|exact HB.out)) hb);clear YK HB;have YK:=n0_;have HB:=n1_;clear n0_ n1_;(try clear hb);(try clear hb2);(try clear hk);(try clear hi);have Wp:w21.cell? ⟨Jj,0,none⟩=some (.slice (some qhn) Qb.length QG):=(Q8 YK.out 0).trans rfl;have Wq:w21.cell? ⟨Jj,1,none⟩=some (.slice Y2 Qi.length QI):=(Q8 YK.out 1).trans rfl;have Wr:w21.cell? ⟨Jj,2,none⟩=some (.slice Y7 Qd.length QJ):=(Q8 YK.out 2).trans rfl;have Ws:=Q9 YK.out 0;have Wt:=Q9 YK.out 1;have Wu:=Q9 YK.out 2;have qfe:0≤(Yk:Int):=of_decide_eq_true (by first|(with_reducible assumption)|assumption);have qfg:Yk<(Qi.length:Int):=of_decide_eq_true (by first|(with_reducible assumption)|assumption);obtain ⟨qAs,qyV,U9⟩:=Kd.at_int Jz.out Yk qfe qfg;cases qyV;replace U9:=(HB.out.cell (World.block_lt_of_cell? w _ U9)).trans U9;replace qfe:=eq_true qfe;replace qfg:=eq_true qfg)|(go_at_call 65;(with_reducible refine (Ql.calls (rd Qi Yk) 0 100 t193 _ A19.out).mono ?_);rintro e w' ⟨rfl,⟨nd,rfl⟩⟩))
            go_roundg X0
            case measure=>have:=HJ1.out;have:=HK2.out;have:=W5.out;omega
            case rel=>exact ⟨(t193),(wrap64 (Yk+1)),(by first|rfl|(simp;done)|(simp [*];done)),(by first|rfl|(simp;done)|(simp [*];done)),H',⟨by have:=HJ1.out;have:=HK2.out;have:=W5.out;omega⟩,⟨by (with_reducible repeat (first|refine Q4 ?_ _|refine Q6 ?_|refine Q3 ?_ _));exact YK.out⟩,⟨by repeat (first|(with_reducible first|exact HB.out|apply Q2|apply Q0|apply Q5|refine Q7 ?_ Gb.out)|exact HB.out)⟩⟩
           rw [if_neg c18] at H
           exact absurd H (by simp)
          replace c17:=Bool.eq_false_iff.mpr c17;subst c17
          have H1:(Qo.l0 X0 (Qb.length:Int) false (wrap64 (Yk+1)) Qb Qi Qd)=some r:=by rw [if_neg (show ¬ (false=true) by decide)] at H;exact H
          clear H;have H:=H1;clear H1;have H':=Q1.mk H;clear H;have Xr:wc.cell? ⟨Jj,0,none⟩=some (.slice Y4 Qb.length QG):=(Q8 YK.out 0).trans rfl;have Xs:wc.cell? ⟨Jj,1,none⟩=some (.slice Y2 Qi.length QI):=(Q8 YK.out 1).trans rfl;have Xt:wc.cell? ⟨Jj,2,none⟩=some (.slice Y7 Qd.length QJ):=(Q8 YK.out 2).trans rfl;have XC:=Q9 YK.out 0;have XD:=Q9 YK.out 1;have XE:=Q9 YK.out 2;have qaU:0≤(Yk:Int):=of_decide_eq_true (by first|(with_reducible assumption)|assumption);have qaV:Yk<(Qb.length:Int):=of_decide_eq_true (by first|(with_reducible assumption)|assumption);obtain ⟨qhn,qfK,qfV,qfL,qfW,qfM,qfX,e190,GU,GV,GX,GY,GZ,XN,XJ,XO,XK,XP,XL⟩:=qfS Jr.out Yk qaU qaV;cases e190;replace GU:=(HB.out.cell (World.block_lt_of_cell? w _ GU)).trans GU;replace GV:=(HB.out.cell (World.block_lt_of_cell? w _ GV)).trans GV;replace GX:=(HB.out.cell (World.block_lt_of_cell? w _ GX)).trans GX;replace GY:=(HB.out.cell (World.block_lt_of_cell? w _ GY)).trans GY;replace GZ:=(HB.out.cell (World.block_lt_of_cell? w _ GZ)).trans GZ;have qcX:=Q1.mk XJ;have qcU:=Q1.mk XN;clear XJ XN;have qcY:=Q1.mk XK;have qcV:=Q1.mk XO;clear XK XO;have qcZ:=Q1.mk XL;have qcW:=Q1.mk XP;clear XL XP;replace qaU:=eq_true qaU;replace qaV:=eq_true qaV
          go_wp2_with (first|((with_reducible refine Qp (f:=76) rfl ?_);refine Yd (some 44) rfl rfl Try.func76 (by kernel_rfl) rfl #[.agg #[.slice qfK ((Qc Qb Yk).f0).length qfV,.slice qfL ((Qc Qb Yk).f1).length qfW,.slice qfM ((Qc Qb Yk).f2).length qfX,.int .i64 ((Qc Qb Yk).f3),.int .i64 ((Qc Qb Yk).f4)]] rfl (by (try simp only [List.map_toArray,List.map_cons,List.map_nil]);first|done|rfl|(simp only [List.length_drop,List.length_take];rfl)) ?_;(with_reducible refine (Qn.calls X0 _ _ ((Qc Qb Yk).f0) _ _ ((Qc Qb Yk).f1) _ _ ((Qc Qb Yk).f2) ((Qc Qb Yk).f3) ((Qc Qb Yk).f4) false _ ?side1 ?side2 ?side3 ?side4 ?side5 ?side6 A16.out).mono ?_);(case side1=>repeat (first|exact (Kd.C_below qcX.out HB.out)|(with_reducible refine Kd.C_alloc ?_ _)|(with_reducible refine Kd.C_drewN ?_ _)|(with_reducible refine Kd.C_drew ?_)));(case side2=>exact qcU.out);(case side3=>repeat (first|exact (Kd.C_below qcY.out HB.out)|(with_reducible refine Kd.C_alloc ?_ _)|(with_reducible refine Kd.C_drewN ?_ _)|(with_reducible refine Kd.C_drew ?_)));(case side4=>exact qcV.out);(case side5=>repeat (first|exact (Kd.C_below qcZ.out HB.out)|(with_reducible refine Kd.C_alloc ?_ _)|(with_reducible refine Kd.C_drewN ?_ _)|(with_reducible refine Kd.C_drew ?_)));(case side6=>exact qcW.out);rintro e w24 ⟨rfl,hb⟩;refine ⟨_,rfl,?_⟩;have n0_:=Q1.mk (Qf (g:=Jj) (by (with_reducible repeat (first|refine Q4 ?_ _|refine Q6 ?_|refine Q3 ?_ _));exact YK.out) hb);have n1_:=Q1.mk (Qj (by repeat (first|(with_reducible first|exact HB.out|apply Q2|apply Q0|apply Q5|refine Q7 ?_ Gb.out)|exact HB.out)) hb);clear YK HB;have YK:=n0_;have HB:=n1_;clear n0_ n1_;(try clear hb);(try clear hb2);(try clear hk);(try clear hi)))
          go_roundg X0
          case measure=>have:=HJ1.out;have:=HK2.out;have:=W5.out;omega
          case rel=>exact ⟨(false),(wrap64 (Yk+1)),(by first|rfl|(simp;done)|(simp [*];done)),(by first|rfl|(simp;done)|(simp [*];done)),H',⟨by have:=HJ1.out;have:=HK2.out;have:=W5.out;omega⟩,⟨by (with_reducible repeat (first|refine Q4 ?_ _|refine Q6 ?_|refine Q3 ?_ _));exact YK.out⟩,⟨by repeat (first|(with_reducible first|exact HB.out|apply Q2|apply Q0|apply Q5|refine Q7 ?_ Gb.out)|exact HB.out)⟩⟩
         rw [if_neg c15] at H
         exact absurd H (by simp)
        rw [if_neg c14] at H
        exact absurd H (by simp)
       replace c13:=Bool.eq_false_iff.mpr c13;subst c13
       have H1:(Qo.l1 X0 (Qb.length:Int) OA Qd (Qd.length:Int) 0 Qb Qi Qd)=some r:=by rw [if_neg (show ¬ (false=true) by decide)] at H;exact H
       clear H;have H:=H1;clear H1;have H':=Q1.mk H;clear H;have Xu:wc.cell? ⟨Jj,0,none⟩=some (.slice Y4 Qb.length QG):=(Q8 YK.out 0).trans rfl;have Xv:wc.cell? ⟨Jj,1,none⟩=some (.slice Y2 Qi.length QI):=(Q8 YK.out 1).trans rfl;have Xw:wc.cell? ⟨Jj,2,none⟩=some (.slice Y7 Qd.length QJ):=(Q8 YK.out 2).trans rfl;have XF:=Q9 YK.out 0;have XG:=Q9 YK.out 1;have XH:=Q9 YK.out 2
       go_wp2
       go_loopg [4,56] X0 (fun kq v4 v56 w' => ∃ (qkz:Bool) (Yq:Int),v4 = .bool qkz∧v56 = .int .i64 Yq∧Q1 (Qo.l1 kq (Qb.length:Int) qkz Qd (Qd.length:Int) Yq Qb Qi Qd=some r)∧Q1 (kq≤X0)∧Q1 (w'.heap[Jj]? = some (.cells #[(.slice Y4 Qb.length QG),(.slice Y2 Qi.length QI),(.slice Y7 Qd.length QJ)] 47 (0,0)))∧Q1 (Below w.heap.size w w'))
       case atStart=>exact ⟨(OA),(0),(by first|rfl|(simp;done)|(simp [*];done)),(by first|rfl|(simp;done)|(simp [*];done)),H',⟨Nat.le_refl _⟩,⟨by (with_reducible repeat (first|refine Q4 ?_ _|refine Q6 ?_|refine Q3 ?_ _));exact YK.out⟩,⟨by repeat (first|(with_reducible first|exact HB.out|apply Q2|apply Q0|apply Q5|refine Q7 ?_ Gb.out)|exact HB.out)⟩⟩
       case round =>
        clear H';(try clear c1);(try clear p1);(try clear q1);(try clear hx1);(try clear p2);(try clear c3);(try clear c6);(try clear p6);(try clear c7);(try clear c7b0);(try clear c7b1);(try clear c7b2);(try clear c12);(try clear c13);(try clear c14);(try clear c14b0);(try clear c15);(try clear c15b0);(try clear c17);(try clear c18);(try clear c18b0);(try clear c19);(try clear p19);(try clear q19);(try clear qmq);(try clear Gv);(try clear Gw);(try clear GR);(try clear Xo);(try clear Xp);(try clear Xq);(try clear Wp);(try clear Wq);(try clear Wr);(try clear Xr);(try clear Xs);(try clear Xt);(try clear Xu);(try clear Xv);(try clear Xw);(try clear GF);(try clear GG);(try clear Kf);(try clear Kg);(try clear Kh);(try clear Ki);(try clear Gx);(try clear Gy);(try clear GT);(try clear Xz);(try clear XA);(try clear XB);(try clear Ws);(try clear Wt);(try clear Wu);(try clear XC);(try clear XD);(try clear XE);(try clear XF);(try clear XG);(try clear XH);(try clear GH);(try clear GI);(try clear Kj);(try clear Kk);(try clear Kl);(try clear Km);(try clear GU);(try clear GV);(try clear GX);(try clear GY);(try clear GZ);(try clear U9);(try clear qaU);(try clear qfe);(try clear p2);(try clear qaV);(try clear qfg);obtain ⟨qkz,Yq,rfl,rfl,HA,HK4,YK,HB⟩:=hrel
        cases gk with
        | zero=>exact absurd HA.out (by simp [Qo.l1])
        | succ k4 =>
         have H:=HA.out;clear HA;simp only [Qo.l1] at H
         by_cases c26:Yq<(Qd.length:Int)
         ·
          rw [if_pos c26] at H;have c26b0:decide (Yq<(Qd.length:Int))=true:=decide_eq_true c26;clear c26
          by_cases c27:0≤Yq
          ·
           rw [if_pos c27] at H;have c27b0:decide (0≤Yq)=true:=decide_eq_true c27;clear c27
           by_cases c28:Yq<(Qd.length:Int)
           ·
            rw [if_pos c28] at H;have c28b0:decide (Yq<(Qd.length:Int))=true:=decide_eq_true c28;clear c28;have qoc:=Q1.mk H;clear H;have qgv:0≤(Yq:Int):=of_decide_eq_true (by first|(with_reducible assumption)|assumption);have qgJ:Yq<(Qd.length:Int):=of_decide_eq_true (by first|(with_reducible assumption)|assumption);obtain ⟨qcG,qyc,qyA,qyW,UM,qhJ,qhy⟩:=qju JA.out Yq qgv qgJ;cases qyW;replace UM:=(HB.out.cell (World.block_lt_of_cell? w _ UM)).trans UM;have qkQ:=Q1.mk qhy;have qsm:=Q1.mk qhJ;clear qhy qhJ;replace qgv:=eq_true qgv;replace qgJ:=eq_true qgJ
            go_upto_region 10 with (fail)
            go_cut [4] (fun v4 wc => ∃ (kq:Nat) (qie:Bool),v4 = .bool qie∧Q1 (Qo.j4 kq (Qb.length:Int) qie (QE Qd Yq) Qd (Qd.length:Int) Yq Qb Qi Qd=some r)∧Q1 (kq≤k4)∧Q1 (wc.heap[Jj]? = some (.cells #[(.slice Y4 Qb.length QG),(.slice Y2 Qi.length QI),(.slice (some qcG) Qd.length QJ)] 47 (0,0)))∧Q1 (Below w.heap.size w wc))
            case first =>
             have H:=qoc.out;clear qoc
             by_cases c30:qkz=true
             ·
              subst c30
              have H1:(Qo.j4 k4 (Qb.length:Int) (((QE Qd Yq).length:Int)==(Qb.length:Int)) (QE Qd Yq) Qd (Qd.length:Int) Yq Qb Qi Qd)=some r:=by rw [if_pos rfl] at H;exact H
              clear H;have H:=H1;clear H1;have H':=Q1.mk H;clear H
              go_wp2
              go_meet
              case rel=>exact ⟨_,((((QE Qd Yq).length:Int)==(Qb.length:Int))),(by first|rfl|(simp;done)|(simp [*];done)),H',⟨by have:=HJ1.out;have:=HK2.out;have:=W5.out;have:=HK4.out;first|omega|exact Nat.le_refl _⟩,⟨by (with_reducible repeat (first|refine Q4 ?_ _|refine Q6 ?_|refine Q3 ?_ _));exact YK.out⟩,⟨by repeat (first|(with_reducible first|exact HB.out|apply Q2|apply Q0|apply Q5|refine Q7 ?_ Gb.out)|exact HB.out)⟩⟩
             replace c30:=Bool.eq_false_iff.mpr c30;subst c30
             have H1:(Qo.j4 k4 (Qb.length:Int) false (QE Qd Yq) Qd (Qd.length:Int) Yq Qb Qi Qd)=some r:=by rw [if_neg (show ¬ (false=true) by decide)] at H;exact H
             clear H;have H:=H1;clear H1;have H':=Q1.mk H;clear H
             go_wp2
             go_meet
             case rel=>exact ⟨_,(false),(by first|rfl|(simp;done)|(simp [*];done)),H',⟨by have:=HJ1.out;have:=HK2.out;have:=W5.out;have:=HK4.out;first|omega|exact Nat.le_refl _⟩,⟨by (with_reducible repeat (first|refine Q4 ?_ _|refine Q6 ?_|refine Q3 ?_ _));exact YK.out⟩,⟨by repeat (first|(with_reducible first|exact HB.out|apply Q2|apply Q0|apply Q5|refine Q7 ?_ Gb.out)|exact HB.out)⟩⟩
            case rest =>
             clear qoc;(try clear c1);(try clear p1);(try clear q1);(try clear hx1);(try clear c2);(try clear p2);(try clear c3);(try clear c6);(try clear p6);(try clear c7);(try clear c7b0);(try clear c7b1);(try clear c7b2);(try clear c12);(try clear c13);(try clear c14);(try clear c14b0);(try clear c15);(try clear c15b0);(try clear c17);(try clear c18);(try clear c18b0);(try clear c19);(try clear p19);(try clear q19);(try clear qmq);(try clear c26);(try clear c26b0);(try clear c27);(try clear c27b0);(try clear c28);(try clear c28b0);(try clear c30);(try clear Gv);(try clear Gw);(try clear GR);(try clear Xo);(try clear Xp);(try clear Xq);(try clear Wp);(try clear Wq);(try clear Wr);(try clear Xr);(try clear Xs);(try clear Xt);(try clear Xu);(try clear Xv);(try clear Xw);(try clear GF);(try clear GG);(try clear Kf);(try clear Kg);(try clear Kh);(try clear Ki);(try clear Gx);(try clear Gy);(try clear GT);(try clear Xz);(try clear XA);(try clear XB);(try clear Ws);(try clear Wt);(try clear Wu);(try clear XC);(try clear XD);(try clear XE);(try clear XF);(try clear XG);(try clear XH);(try clear GH);(try clear GI);(try clear Kj);(try clear Kk);(try clear Kl);(try clear Km);(try clear GU);(try clear GV);(try clear GX);(try clear GY);(try clear GZ);(try clear U9);(try clear UM);(try clear p1);(try clear p19);(try clear qaU);(try clear qfe);(try clear qgv);(try clear p2);(try clear p6);(try clear q1);(try clear q19);(try clear qaV);(try clear qfg);(try clear qgJ);obtain ⟨kq,qie,rfl,HA,qbN,YK,HB⟩:=hcut
             cases kq with
             | zero=>exact absurd HA.out (by simp [Qo.j4])
             | succ qsg =>
              have H:=HA.out;clear HA;simp only [Qo.j4] at H;have H':=Q1.mk H;clear H
              go_wp2
              go_loopg [4,69] qsg (fun kq v4 v69 w' => ∃ (qkA:Bool) (Zj:Int),v4 = .bool qkA∧v69 = .int .i64 Zj∧Q1 (Qo.l2 kq (Qb.length:Int) qkA Qd (Qd.length:Int) Yq (QE Qd Yq) ((QE Qd Yq).length:Int) Zj Qb Qi Qd=some r)∧Q1 (kq≤qsg)∧Q1 (w'.heap[Jj]? = some (.cells #[(.slice Y4 Qb.length QG),(.slice Y2 Qi.length QI),(.slice (some qcG) Qd.length QJ)] 47 (0,0)))∧Q1 (Below w.heap.size w w'))
              case atStart=>exact ⟨(qie),(0),(by first|rfl|(simp;done)|(simp [*];done)),(by first|rfl|(simp;done)|(simp [*];done)),H',⟨Nat.le_refl _⟩,⟨by (with_reducible repeat (first|refine Q4 ?_ _|refine Q6 ?_|refine Q3 ?_ _));exact YK.out⟩,⟨by repeat (first|(with_reducible first|exact HB.out|apply Q2|apply Q0|apply Q5|refine Q7 ?_ Gb.out)|exact HB.out)⟩⟩
              case round =>
               clear H';(try clear c1);(try clear p1);(try clear q1);(try clear hx1);(try clear c2);(try clear p2);(try clear c3);(try clear c6);(try clear p6);(try clear c7);(try clear c7b0);(try clear c7b1);(try clear c7b2);(try clear c12);(try clear c13);(try clear c14);(try clear c14b0);(try clear c15);(try clear c15b0);(try clear c17);(try clear c18);(try clear c18b0);(try clear c19);(try clear p19);(try clear q19);(try clear qmq);(try clear c26);(try clear c26b0);(try clear c27);(try clear c27b0);(try clear c28);(try clear c28b0);(try clear c30);(try clear Gv);(try clear Gw);(try clear GR);(try clear Xo);(try clear Xp);(try clear Xq);(try clear Wp);(try clear Wq);(try clear Wr);(try clear Xr);(try clear Xs);(try clear Xt);(try clear Xu);(try clear Xv);(try clear Xw);(try clear GF);(try clear GG);(try clear Kf);(try clear Kg);(try clear Kh);(try clear Ki);(try clear Gx);(try clear Gy);(try clear GT);(try clear Xz);(try clear XA);(try clear XB);(try clear Ws);(try clear Wt);(try clear Wu);(try clear XC);(try clear XD);(try clear XE);(try clear XF);(try clear XG);(try clear XH);(try clear GH);(try clear GI);(try clear Kj);(try clear Kk);(try clear Kl);(try clear Km);(try clear GU);(try clear GV);(try clear GX);(try clear GY);(try clear GZ);(try clear U9);(try clear UM);(try clear p1);(try clear p19);(try clear qaU);(try clear qfe);(try clear qgv);(try clear p2);(try clear p6);(try clear q1);(try clear q19);(try clear qaV);(try clear qfg);(try clear qgJ);obtain ⟨qkA,Zj,rfl,rfl,HA,HK6,YK,HB⟩:=hrel
               cases gk with
               | zero=>exact absurd HA.out (by simp [Qo.l2])
               | succ k6 =>
                have H:=HA.out;clear HA;simp only [Qo.l2] at H
                by_cases c31:Zj<((QE Qd Yq).length:Int)
                ·
                 rw [if_pos c31] at H;have c31b0:decide (Zj<((QE Qd Yq).length:Int))=true:=decide_eq_true c31;clear c31
                 by_cases c32:0≤Zj
                 ·
                  rw [if_pos c32] at H;have c32b0:decide (0≤Zj)=true:=decide_eq_true c32;clear c32
                  by_cases c33:Zj<((QE Qd Yq).length:Int)
                  ·
                   rw [if_pos c33] at H;have c33b0:decide (Zj<((QE Qd Yq).length:Int))=true:=decide_eq_true c33;clear c33;have qoe:=Q1.mk H;clear H;have qkf:0≤(Zj:Int):=of_decide_eq_true (by first|(with_reducible assumption)|assumption);have qkk:Zj<((QE Qd Yq).length:Int):=of_decide_eq_true (by first|(with_reducible assumption)|assumption);obtain ⟨qAt,qyd,qyB,e195,XS,qhK,qhz⟩:=qcI qkQ.out Zj qkf qkk;cases e195;replace XS:=(HB.out.cell (World.block_lt_of_cell? w _ XS)).trans XS;have qhk:=Q1.mk qhz;have qsn:=Q1.mk qhK;clear qhz qhK;replace qkf:=eq_true qkf;replace qkk:=eq_true qkk
                   go_upto_region 14 with (fail)
                   go_cut [4] (fun v4 wc => ∃ (kq:Nat) (qif:Bool),v4 = .bool qif∧Q1 (Qo.j6 kq (Qb.length:Int) qif (Y5 (QE Qd Yq) Zj) Qd (Qd.length:Int) Yq (QE Qd Yq) ((QE Qd Yq).length:Int) Zj Qb Qi Qd=some r)∧Q1 (kq≤k6)∧Q1 (wc.heap[Jj]? = some (.cells #[(.slice Y4 Qb.length QG),(.slice Y2 Qi.length QI),(.slice (some qcG) Qd.length QJ)] 47 (0,0)))∧Q1 (Below w.heap.size w wc))
                   case first =>
                    have H:=qoe.out;clear qoe
                    by_cases c35:qkA=true
                    ·
                     subst c35
                     have H1:((Ql.f ((Y5 (QE Qd Yq) Zj).length:Int) 1 10).bind fun t196=>(if t196=true then (if 0<(Qd.length:Int) then (if 0<((QE Qd 0).length:Int) then (Qo.j6 k6 (Qb.length:Int) (((Y5 (QE Qd Yq) Zj).length:Int)==((Y5 (QE Qd 0) 0).length:Int)) (Y5 (QE Qd Yq) Zj) Qd (Qd.length:Int) Yq (QE Qd Yq) ((QE Qd Yq).length:Int) Zj Qb Qi Qd) else (none)) else (none)) else (Qo.j6 k6 (Qb.length:Int) false (Y5 (QE Qd Yq) Zj) Qd (Qd.length:Int) Yq (QE Qd Yq) ((QE Qd Yq).length:Int) Zj Qb Qi Qd)))=some r:=by rw [if_pos rfl] at H;exact H
                     clear H;have H:=H1;clear H1;replace H:=Option.bind_eq_some_iff.mp H;obtain ⟨t196,qpx,H⟩:=H;replace H:(if t196=true then (if 0<(Qd.length:Int) then (if 0<((QE Qd 0).length:Int) then (Qo.j6 k6 (Qb.length:Int) (((Y5 (QE Qd Yq) Zj).length:Int)==((Y5 (QE Qd 0) 0).length:Int)) (Y5 (QE Qd Yq) Zj) Qd (Qd.length:Int) Yq (QE Qd Yq) ((QE Qd Yq).length:Int) Zj Qb Qi Qd) else (none)) else (none)) else (Qo.j6 k6 (Qb.length:Int) false (Y5 (QE Qd Yq) Zj) Qd (Qd.length:Int) Yq (QE Qd Yq) ((QE Qd Yq).length:Int) Zj Qb Qi Qd))=some r:=H;have A36:=Q1.mk qpx;clear qpx
                     by_cases c37:t196=true
                     ·
                      subst c37
                      have H1:(if 0<(Qd.length:Int) then (if 0<((QE Qd 0).length:Int) then (Qo.j6 k6 (Qb.length:Int) (((Y5 (QE Qd Yq) Zj).length:Int)==((Y5 (QE Qd 0) 0).length:Int)) (Y5 (QE Qd Yq) Zj) Qd (Qd.length:Int) Yq (QE Qd Yq) ((QE Qd Yq).length:Int) Zj Qb Qi Qd) else (none)) else (none))=some r:=by rw [if_pos rfl] at H;exact H
                      clear H;have H:=H1;clear H1
                      by_cases c38:0<(Qd.length:Int)
                      ·
                       rw [if_pos c38] at H;have c38b0:decide (0<(Qd.length:Int))=true:=decide_eq_true c38;have c38b1:decide (0<Qd.length)=true:=decide_eq_true (by omega);clear c38
                       (first|rw [c38b0]|(simp only [Yn,YA];rw [c38b0])|skip)
                       by_cases c39:0<((QE Qd 0).length:Int)
                       ·
                        rw [if_pos c39] at H;have c39b0:decide (0<((QE Qd 0).length:Int))=true:=decide_eq_true c39;have c39b1:decide (0<(QE Qd 0).length)=true:=decide_eq_true (by omega);clear c39;have H':=Q1.mk H;clear H
                        go_wp2_with (first|(go_at_call 65;(with_reducible refine (Ql.calls ((Y5 (QE Qd Yq) Zj).length:Int) 1 10 true _ A36.out).mono ?_);rintro e w' ⟨rfl,⟨nd,rfl⟩⟩;have qbd:wr.cell? ⟨Jj,0,none⟩=some (.slice Y4 Qb.length QG):=(Q8 YK.out 0).trans rfl;have qbe:wr.cell? ⟨Jj,1,none⟩=some (.slice Y2 Qi.length QI):=(Q8 YK.out 1).trans rfl;have qbf:wr.cell? ⟨Jj,2,none⟩=some (.slice (some qcG) Qd.length QJ):=(Q8 YK.out 2).trans rfl;have qbo:=Q9 YK.out 0;have qbp:=Q9 YK.out 1;have qbq:=Q9 YK.out 2;have qkg:0≤(0:Int):=(by omega);have qkl:0<(Qd.length:Int):=of_decide_eq_true (by first|(with_reducible assumption)|assumption);obtain ⟨qp8,qye,qyC,e197,UN,qhL,qhA⟩:=qju JA.out 0 qkg qkl;obtain rfl:qcG=qp8:=(by injection e197);have qCb:(0<Qd.length)=True:=eq_true (by omega);(try rw [show ((0:Int)).toNat=0 from rfl] at UN);(try rw [Addr.add_zero'] at UN);replace UN:=(HB.out.cell (World.block_lt_of_cell? w _ UN)).trans UN;have qkR:=Q1.mk qhA;have qso:=Q1.mk qhL;clear qhA qhL;replace qkg:=eq_true qkg;replace qkl:=eq_true qkl;have qkh:0≤(0:Int):=(by omega);have qkm:0<((QE Qd 0).length:Int):=of_decide_eq_true (by first|(with_reducible assumption)|assumption);obtain ⟨qAu,qyf,qyD,qyX,UO,qhM,qhB⟩:=qcI qkR.out 0 qkh qkm;cases qyX;have qCc:(0<(QE Qd 0).length)=True:=eq_true (by omega);(try rw [show ((0:Int)).toNat=0 from rfl] at UO);(try rw [Addr.add_zero'] at UO);replace UO:=(HB.out.cell (World.block_lt_of_cell? w _ UO)).trans UO;have qsr:=Q1.mk qhB;have qsp:=Q1.mk qhM;clear qhB qhM;replace qkh:=eq_true qkh;replace qkm:=eq_true qkm))
                        go_meet
                        case rel=>exact ⟨_,((((Y5 (QE Qd Yq) Zj).length:Int)==((Y5 (QE Qd 0) 0).length:Int))),(by first|rfl|(simp;done)|(simp [*];done)),H',⟨by have:=HJ1.out;have:=HK2.out;have:=W5.out;have:=HK4.out;have:=qbN.out;have:=HK6.out;first|omega|exact Nat.le_refl _⟩,⟨by (with_reducible repeat (first|refine Q4 ?_ _|refine Q6 ?_|refine Q3 ?_ _));exact YK.out⟩,⟨by repeat (first|(with_reducible first|exact HB.out|apply Q2|apply Q0|apply Q5|refine Q7 ?_ Gb.out)|exact HB.out)⟩⟩
                       rw [if_neg c39] at H
                       exact absurd H (by simp)
                      rw [if_neg c38] at H
                      exact absurd H (by simp)
                     replace c37:=Bool.eq_false_iff.mpr c37;subst c37
                     have H1:(Qo.j6 k6 (Qb.length:Int) false (Y5 (QE Qd Yq) Zj) Qd (Qd.length:Int) Yq (QE Qd Yq) ((QE Qd Yq).length:Int) Zj Qb Qi Qd)=some r:=by rw [if_neg (show ¬ (false=true) by decide)] at H;exact H
                     clear H;have H:=H1;clear H1;have H':=Q1.mk H;clear H
                     go_wp2_with (first|(go_at_call 65;(with_reducible refine (Ql.calls ((Y5 (QE Qd Yq) Zj).length:Int) 1 10 false _ A36.out).mono ?_);rintro e w' ⟨rfl,⟨nd,rfl⟩⟩))
                     go_meet
                     case rel=>exact ⟨_,(false),(by first|rfl|(simp;done)|(simp [*];done)),H',⟨by have:=HJ1.out;have:=HK2.out;have:=W5.out;have:=HK4.out;have:=qbN.out;have:=HK6.out;first|omega|exact Nat.le_refl _⟩,⟨by (with_reducible repeat (first|refine Q4 ?_ _|refine Q6 ?_|refine Q3 ?_ _));exact YK.out⟩,⟨by repeat (first|(with_reducible first|exact HB.out|apply Q2|apply Q0|apply Q5|refine Q7 ?_ Gb.out)|exact HB.out)⟩⟩
                    replace c35:=Bool.eq_false_iff.mpr c35;subst c35
                    have H1:(Qo.j6 k6 (Qb.length:Int) false (Y5 (QE Qd Yq) Zj) Qd (Qd.length:Int) Yq (QE Qd Yq) ((QE Qd Yq).length:Int) Zj Qb Qi Qd)=some r:=by rw [if_neg (show ¬ (false=true) by decide)] at H;exact H
                    clear H;have H:=H1;clear H1;have H':=Q1.mk H;clear H
                    go_wp2
                    go_meet
                    case rel=>exact ⟨_,(false),(by first|rfl|(simp;done)|(simp [*];done)),H',⟨by have:=HJ1.out;have:=HK2.out;have:=W5.out;have:=HK4.out;have:=qbN.out;have:=HK6.out;first|omega|exact Nat.le_refl _⟩,⟨by (with_reducible repeat (first|refine Q4 ?_ _|refine Q6 ?_|refine Q3 ?_ _));exact YK.out⟩,⟨by repeat (first|(with_reducible first|exact HB.out|apply Q2|apply Q0|apply Q5|refine Q7 ?_ Gb.out)|exact HB.out)⟩⟩
                   case rest =>
                    clear qoe;(try clear c1);(try clear p1);(try clear q1);(try clear hx1);(try clear qi1);(try clear c2);(try clear p2);(try clear c3);(try clear c6);(try clear p6);(try clear c7);(try clear c7b0);(try clear c7b1);(try clear c7b2);(try clear c12);(try clear c13);(try clear c14);(try clear c14b0);(try clear c15);(try clear c15b0);(try clear c17);(try clear c18);(try clear c18b0);(try clear c19);(try clear p19);(try clear q19);(try clear qmq);(try clear qz3);(try clear c26);(try clear c26b0);(try clear c27);(try clear c27b0);(try clear c28);(try clear c28b0);(try clear c30);(try clear c31);(try clear c31b0);(try clear c32);(try clear c32b0);(try clear c33);(try clear c33b0);(try clear c35);(try clear c37);(try clear c38);(try clear c38b0);(try clear c38b1);(try clear c39);(try clear c39b0);(try clear c39b1);(try clear Gv);(try clear Gw);(try clear GR);(try clear Xo);(try clear Xp);(try clear Xq);(try clear Wp);(try clear Wq);(try clear Wr);(try clear Xr);(try clear Xs);(try clear Xt);(try clear Xu);(try clear Xv);(try clear Xw);(try clear qbd);(try clear qbe);(try clear qbf);(try clear GF);(try clear GG);(try clear Kf);(try clear Kg);(try clear Kh);(try clear Ki);(try clear Gx);(try clear Gy);(try clear GT);(try clear Xz);(try clear XA);(try clear XB);(try clear Ws);(try clear Wt);(try clear Wu);(try clear XC);(try clear XD);(try clear XE);(try clear XF);(try clear XG);(try clear XH);(try clear qbo);(try clear qbp);(try clear qbq);(try clear GH);(try clear GI);(try clear Kj);(try clear Kk);(try clear Kl);(try clear Km);(try clear GU);(try clear GV);(try clear GX);(try clear GY);(try clear GZ);(try clear U9);(try clear UM);(try clear XS);(try clear UN);(try clear UO);(try clear p1);(try clear p19);(try clear qaU);(try clear qfe);(try clear qgv);(try clear qkf);(try clear qkg);(try clear qkh);(try clear p2);(try clear p6);(try clear q1);(try clear q19);(try clear qaV);(try clear qfg);(try clear qgJ);(try clear qkk);(try clear qkl);(try clear qkm);obtain ⟨kq,qif,rfl,HA,qii,YK,HB⟩:=hcut
                    cases kq with
                    | zero=>exact absurd HA.out (by simp [Qo.j6])
                    | succ qsh =>
                     have H:=HA.out;clear HA;simp only [Qo.j6] at H;have H':=Q1.mk H;clear H
                     go_wp2
                     go_loopg [4,93] qsh (fun kq v4 v93 w' => ∃ (qkB:Bool) (Gp:Int),v4 = .bool qkB∧v93 = .int .i64 Gp∧Q1 (Qo.l3 kq (Qb.length:Int) qkB Qd (Qd.length:Int) Yq (QE Qd Yq) ((QE Qd Yq).length:Int) Zj (Y5 (QE Qd Yq) Zj) ((Y5 (QE Qd Yq) Zj).length:Int) Gp Qb Qi Qd=some r)∧Q1 (kq≤qsh)∧Q1 (w'.heap[Jj]? = some (.cells #[(.slice Y4 Qb.length QG),(.slice Y2 Qi.length QI),(.slice (some qcG) Qd.length QJ)] 47 (0,0)))∧Q1 (Below w.heap.size w w'))
                     case atStart=>exact ⟨(qif),(0),(by first|rfl|(simp;done)|(simp [*];done)),(by first|rfl|(simp;done)|(simp [*];done)),H',⟨Nat.le_refl _⟩,⟨by (with_reducible repeat (first|refine Q4 ?_ _|refine Q6 ?_|refine Q3 ?_ _));exact YK.out⟩,⟨by repeat (first|(with_reducible first|exact HB.out|apply Q2|apply Q0|apply Q5|refine Q7 ?_ Gb.out)|exact HB.out)⟩⟩
                     case round =>
                      clear H';(try clear c1);(try clear p1);(try clear q1);(try clear hx1);(try clear qi1);(try clear c2);(try clear p2);(try clear c3);(try clear c6);(try clear p6);(try clear c7);(try clear c7b0);(try clear c7b1);(try clear c7b2);(try clear c12);(try clear c13);(try clear c14);(try clear c14b0);(try clear c15);(try clear c15b0);(try clear c17);(try clear c18);(try clear c18b0);(try clear c19);(try clear p19);(try clear q19);(try clear qmq);(try clear qz3);(try clear c26);(try clear c26b0);(try clear c27);(try clear c27b0);(try clear c28);(try clear c28b0);(try clear c30);(try clear c31);(try clear c31b0);(try clear c32);(try clear c32b0);(try clear c33);(try clear c33b0);(try clear c35);(try clear c37);(try clear c38);(try clear c38b0);(try clear c38b1);(try clear c39);(try clear c39b0);(try clear c39b1);(try clear Gv);(try clear Gw);(try clear GR);(try clear Xo);(try clear Xp);(try clear Xq);(try clear Wp);(try clear Wq);(try clear Wr);(try clear Xr);(try clear Xs);(try clear Xt);(try clear Xu);(try clear Xv);(try clear Xw);(try clear qbd);(try clear qbe);(try clear qbf);(try clear GF);(try clear GG);(try clear Kf);(try clear Kg);(try clear Kh);(try clear Ki);(try clear Gx);(try clear Gy);(try clear GT);(try clear Xz);(try clear XA);(try clear XB);(try clear Ws);(try clear Wt);(try clear Wu);(try clear XC);(try clear XD);(try clear XE);(try clear XF);(try clear XG);(try clear XH);(try clear qbo);(try clear qbp);(try clear qbq);(try clear GH);(try clear GI);(try clear Kj);(try clear Kk);(try clear Kl);(try clear Km);(try clear GU);(try clear GV);(try clear GX);(try clear GY);(try clear GZ);(try clear U9);(try clear UM);(try clear XS);(try clear UN);(try clear UO);(try clear p1);(try clear p19);(try clear qaU);(try clear qfe);(try clear qgv);(try clear qkf);(try clear qkg);(try clear qkh);(try clear p2);(try clear p6);(try clear q1);(try clear q19);(try clear qaV);(try clear qfg);(try clear qgJ);(try clear qkk);(try clear qkl);(try clear qkm);obtain ⟨qkB,Gp,rfl,rfl,HA,HK8,YK,HB⟩:=hrel
                      cases gk with
                      | zero=>exact absurd HA.out (by simp [Qo.l3])
                      | succ k8 =>
                       have H:=HA.out;clear HA;simp only [Qo.l3] at H
                       by_cases c41:Gp<((Y5 (QE Qd Yq) Zj).length:Int)
                       ·
                        rw [if_pos c41] at H;have c41b0:decide (Gp<((Y5 (QE Qd Yq) Zj).length:Int))=true:=decide_eq_true c41;clear c41
                        by_cases c42:0≤Gp
                        ·
                         rw [if_pos c42] at H;have c42b0:decide (0≤Gp)=true:=decide_eq_true c42;clear c42
                         by_cases c43:Gp<((Y5 (QE Qd Yq) Zj).length:Int)
                         ·
                          rw [if_pos c43] at H;have c43b0:decide (Gp<((Y5 (QE Qd Yq) Zj).length:Int))=true:=decide_eq_true c43;clear c43
                          by_cases c44:qkB=true
                          ·
                           subst c44
                           have H1:((Ql.f (rd (Y5 (QE Qd Yq) Zj) Gp) 0 100000).bind fun qgU=>(Qo.l3 k8 (Qb.length:Int) qgU Qd (Qd.length:Int) Yq (QE Qd Yq) ((QE Qd Yq).length:Int) Zj (Y5 (QE Qd Yq) Zj) ((Y5 (QE Qd Yq) Zj).length:Int) (wrap64 (Gp+1)) Qb Qi Qd))=some r:=by rw [if_pos rfl] at H;exact H
                           clear H;have H:=H1;clear H1;replace H:=Option.bind_eq_some_iff.mp H;obtain ⟨qgU,qi6,H⟩:=H;replace H:(Qo.l3 k8 (Qb.length:Int) qgU Qd (Qd.length:Int) Yq (QE Qd Yq) ((QE Qd Yq).length:Int) Zj (Y5 (QE Qd Yq) Zj) ((Y5 (QE Qd Yq) Zj).length:Int) (wrap64 (Gp+1)) Qb Qi Qd)=some r:=H;have A45:=Q1.mk qi6;clear qi6;have H':=Q1.mk H;clear H;have qgw:0≤(Gp:Int):=of_decide_eq_true (by first|(with_reducible assumption)|assumption);have qgK:Gp<((Y5 (QE Qd Yq) Zj).length:Int):=of_decide_eq_true (by first|(with_reducible assumption)|assumption);obtain ⟨qp9,e199,UP⟩:=Kd.at_int qhk.out Gp qgw qgK;cases e199;replace UP:=(HB.out.cell (World.block_lt_of_cell? w _ UP)).trans UP;replace qgw:=eq_true qgw;replace qgK:=eq_true qgK
                           go_wp2_with (first|(go_at_call 65;(with_reducible refine (Ql.calls (rd (Y5 (QE Qd Yq) Zj) Gp) 0 100000 qgU _ A45.out).mono ?_);rintro e w' ⟨rfl,⟨nd,rfl⟩⟩))
                           go_roundg k8
                           case measure=>have:=HJ1.out;have:=HK2.out;have:=W5.out;have:=HK4.out;have:=qbN.out;have:=HK6.out;have:=qii.out;have:=HK8.out;omega
                           case rel=>exact ⟨(qgU),(wrap64 (Gp+1)),(by first|rfl|(simp;done)|(simp [*];done)),(by first|rfl|(simp;done)|(simp [*];done)),H',⟨by have:=HJ1.out;have:=HK2.out;have:=W5.out;have:=HK4.out;have:=qbN.out;have:=HK6.out;have:=qii.out;have:=HK8.out;omega⟩,⟨by (with_reducible repeat (first|refine Q4 ?_ _|refine Q6 ?_|refine Q3 ?_ _));exact YK.out⟩,⟨by repeat (first|(with_reducible first|exact HB.out|apply Q2|apply Q0|apply Q5|refine Q7 ?_ Gb.out)|exact HB.out)⟩⟩
                          replace c44:=Bool.eq_false_iff.mpr c44;subst c44
                          have H1:(Qo.l3 k8 (Qb.length:Int) false Qd (Qd.length:Int) Yq (QE Qd Yq) ((QE Qd Yq).length:Int) Zj (Y5 (QE Qd Yq) Zj) ((Y5 (QE Qd Yq) Zj).length:Int) (wrap64 (Gp+1)) Qb Qi Qd)=some r:=by rw [if_neg (show ¬ (false=true) by decide)] at H;exact H
                          clear H;have H:=H1;clear H1;have H':=Q1.mk H;clear H;have qgw:0≤(Gp:Int):=of_decide_eq_true (by first|(with_reducible assumption)|assumption);have qgK:Gp<((Y5 (QE Qd Yq) Zj).length:Int):=of_decide_eq_true (by first|(with_reducible assumption)|assumption);obtain ⟨qp9,e199,UP⟩:=Kd.at_int qhk.out Gp qgw qgK;cases e199;replace UP:=(HB.out.cell (World.block_lt_of_cell? w _ UP)).trans UP;replace qgw:=eq_true qgw;replace qgK:=eq_true qgK
                          go_wp2
                          go_roundg k8
                          case measure=>have:=HJ1.out;have:=HK2.out;have:=W5.out;have:=HK4.out;have:=qbN.out;have:=HK6.out;have:=qii.out;have:=HK8.out;omega
                          case rel=>exact ⟨(false),(wrap64 (Gp+1)),(by first|rfl|(simp;done)|(simp [*];done)),(by first|rfl|(simp;done)|(simp [*];done)),H',⟨by have:=HJ1.out;have:=HK2.out;have:=W5.out;have:=HK4.out;have:=qbN.out;have:=HK6.out;have:=qii.out;have:=HK8.out;omega⟩,⟨by (with_reducible repeat (first|refine Q4 ?_ _|refine Q6 ?_|refine Q3 ?_ _));exact YK.out⟩,⟨by repeat (first|(with_reducible first|exact HB.out|apply Q2|apply Q0|apply Q5|refine Q7 ?_ Gb.out)|exact HB.out)⟩⟩
                         rw [if_neg c43] at H
                         exact absurd H (by simp)
                        rw [if_neg c42] at H
                        exact absurd H (by simp)
                       rw [if_neg c41] at H;have c41b0:decide (Gp<((Y5 (QE Qd Yq) Zj).length:Int))=false:=decide_eq_false c41;clear c41;have H':=Q1.mk H;clear H
                       go_wp2
                       go_roundg k8
                       case measure=>have:=HJ1.out;have:=HK2.out;have:=W5.out;have:=HK4.out;have:=qbN.out;have:=HK6.out;have:=qii.out;have:=HK8.out;omega
                       case rel=>exact ⟨(qkB),(wrap64 (Zj+1)),(by first|rfl|(simp;done)|(simp [*];done)),(by first|rfl|(simp;done)|(simp [*];done)),H',⟨by have:=HJ1.out;have:=HK2.out;have:=W5.out;have:=HK4.out;have:=qbN.out;have:=HK6.out;have:=qii.out;have:=HK8.out;omega⟩,⟨by (with_reducible repeat (first|refine Q4 ?_ _|refine Q6 ?_|refine Q3 ?_ _));exact YK.out⟩,⟨by repeat (first|(with_reducible first|exact HB.out|apply Q2|apply Q0|apply Q5|refine Q7 ?_ Gb.out)|exact HB.out)⟩⟩
                  rw [if_neg c33] at H
                  exact absurd H (by simp)
                 rw [if_neg c32] at H
                 exact absurd H (by simp)
                rw [if_neg c31] at H;have c31b0:decide (Zj<((QE Qd Yq).length:Int))=false:=decide_eq_false c31;clear c31;have H':=Q1.mk H;clear H
                go_wp2
                go_roundg k6
                case measure=>have:=HJ1.out;have:=HK2.out;have:=W5.out;have:=HK4.out;have:=qbN.out;have:=HK6.out;omega
                case rel=>exact ⟨(qkA),(wrap64 (Yq+1)),(by first|rfl|(simp;done)|(simp [*];done)),(by first|rfl|(simp;done)|(simp [*];done)),H',⟨by have:=HJ1.out;have:=HK2.out;have:=W5.out;have:=HK4.out;have:=qbN.out;have:=HK6.out;omega⟩,⟨by (with_reducible repeat (first|refine Q4 ?_ _|refine Q6 ?_|refine Q3 ?_ _));exact YK.out⟩,⟨by repeat (first|(with_reducible first|exact HB.out|apply Q2|apply Q0|apply Q5|refine Q7 ?_ Gb.out)|exact HB.out)⟩⟩
           rw [if_neg c28] at H
           exact absurd H (by simp)
          rw [if_neg c27] at H
          exact absurd H (by simp)
         rw [if_neg c26] at H;have c26b0:decide (Yq<(Qd.length:Int))=false:=decide_eq_false c26;clear c26
         by_cases c46:qkz=true
         ·
          subst c46
          have H1:(some 0)=some r:=by rw [if_pos rfl] at H;exact H
          clear H;have H:=H1;clear H1;obtain rfl:=Option.some.inj H
          go_wp2
          go_ret
          exact ⟨by first|rfl|(simp [Qs,Qt]<;>rfl)|(simp [*,Qs,Qt]<;>rfl),by repeat (first|(with_reducible first|exact HB.out|apply Q2|apply Q0|apply Q5|refine Q7 ?_ Gb.out)|exact HB.out)⟩
         replace c46:=Bool.eq_false_iff.mpr c46;subst c46
         have H1:(some 93)=some r:=by rw [if_neg (show ¬ (false=true) by decide)] at H;exact H
         clear H;have H:=H1;clear H1;obtain rfl:=Option.some.inj H
         go_wp2
         go_ret
         exact ⟨by first|rfl|(simp [Qs,Qt]<;>rfl)|(simp [*,Qs,Qt]<;>rfl),by repeat (first|(with_reducible first|exact HB.out|apply Q2|apply Q0|apply Q5|refine Q7 ?_ Gb.out)|exact HB.out)⟩
end
end Go.Proofs.Ytmhomdohhihlcaa.P
