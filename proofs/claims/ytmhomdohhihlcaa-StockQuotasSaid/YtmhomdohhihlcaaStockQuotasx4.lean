/- What the statement StockQuotas leans on, part 5 of 6: contracts of the program's functions; conditions: none. -/
import Derived.Test.YtmhomdohhihlcaaStockQuotasx0
import Derived.Test.YtmhomdohhihlcaaStockQuotasx1
import Derived.Test.YtmhomdohhihlcaaStockQuotasx3
set_option linter.unusedVariables false
set_option linter.unusedSimpArgs false
set_option linter.constructorNameAsVariable false
set_option linter.unusedSectionVars false
namespace Go.Proofs.Ytmhomdohhihlcaa.P
open Go.RowKit Go.Proofs.YtmhomdohhihlcaaW.PrintWords Go.Proofs.YtmhomdohhihlcaaW.PrintLast Go.Proofs.YtmhomdohhihlcaaW.PrintMore
section
attribute [local go_sem] YC YE Z2 Z3 Yr Ys YD YF
mutual
def Y5.l0:Nat→List (S68)→Int→Int→Bool→List (S68)→Int→Int→Option (Int × Int × Int)
 | 0,_,_,_,_,_,_,_=>none
 | k+1,x0,x1,x2,x8,x17,x18,x19=>if x19<x18 then (if 0≤x19 then (if x19<(x17.length:Int) then (if x8=true then ((Qn.f ((Yn x17 x19).f0) 0 10000).bind fun t105=>(if t105=true then ((JH.f ((Yn x17 x19).f1.f0) ((Yn x17 x19).f1.f1) 20).bind fun qe8=>(Y5.l0 k x0 x1 x2 qe8 x17 x18 (wrap64 (x19+1)))) else (Y5.l0 k x0 x1 x2 false x17 x18 (wrap64 (x19+1))))) else (Y5.l0 k x0 x1 x2 false x17 x18 (wrap64 (x19+1)))) else (none)) else (none)) else (if x8=true then ((Qn.f x1 0 20).bind fun t107=>(if t107=true then ((Qn.f x2 x1 20).bind fun qpM=>(Y5.j1 k x0 x1 x2 (!qpM))) else (Y5.j1 k x0 x1 x2 true))) else (some (0,0,90)))
def Y5.j1:Nat→List (S68)→Int→Int→Bool→Option (Int × Int × Int)
 | 0,_,_,_,_=>none
 | k+1,x0,x1,x2,x46=>if x46=true then (some (0,0,7)) else (Y5.l1 k x1 x2 x0 (x0.length:Int) 0 0 0)
def Y5.l1:Nat→Int→Int→List (S68)→Int→Int→Int→Int→Option (Int × Int × Int)
 | 0,_,_,_,_,_,_,_=>none
 | k+1,x1,x2,x48,x49,x50,UE,UF=>if x50<x49 then (if 0≤x50 then (if x50<(x48.length:Int) then (if x1≤((Yn x48 x50).f1.f0) then (Y5.j3 k x1 x2 x48 x49 x50 (decide (((Yn x48 x50).f1.f1)≤x2)) UE UF ((Yn x48 x50).f0) ((Yn x48 x50).f1.f0) ((Yn x48 x50).f1.f1)) else (Y5.j3 k x1 x2 x48 x49 x50 false UE UF ((Yn x48 x50).f0) ((Yn x48 x50).f1.f0) ((Yn x48 x50).f1.f1))) else (none)) else (none)) else (some (UE,UF,0))
def Y5.j3:Nat→Int→Int→List (S68)→Int→Int→Bool→Int→Int→Int→Int→Int→Option (Int × Int × Int)
 | 0,_,_,_,_,_,_,_,_,_,_,_=>none
 | k+1,x1,x2,x48,x49,x50,x65,UE,UF,qc0,qmW,qmX=>if x65=true then (if x1≤qmX then (if qmW≤x2 then (Y5.l1 k x1 x2 x48 x49 (wrap64 (x50+1)) (wrap64 (UE+qc0)) (wrap64 (UF+qc0))) else (Y5.l1 k x1 x2 x48 x49 (wrap64 (x50+1)) (wrap64 (UE+qc0)) UF)) else (Y5.l1 k x1 x2 x48 x49 (wrap64 (x50+1)) (wrap64 (UE+qc0)) UF)) else (if x1≤qmX then (if qmW≤x2 then (Y5.l1 k x1 x2 x48 x49 (wrap64 (x50+1)) UE (wrap64 (UF+qc0))) else (Y5.l1 k x1 x2 x48 x49 (wrap64 (x50+1)) UE UF)) else (Y5.l1 k x1 x2 x48 x49 (wrap64 (x50+1)) UE UF))
end
def Y5.f (k:Nat) (l0:List (S68)) (a1:Int) (a2:Int):Option (Int × Int × Int):=Y5.l0 k l0 a1 a2 (decide ((l0.length:Int)≤20)) l0 (l0.length:Int) 0
set_option maxHeartbeats 8000000 in
set_option maxRecDepth 100000 in
theorem Y5.calls (k:Nat) (A0:Option Addr) (c0:Nat) (l0:List (S68)) (a1:Int) (a2:Int) (r1:Int) (r2:Int) (r3:Int) (w:World) (hr0:Kd.C k68 w A0 l0.length l0) (hc0:l0.length≤c0) (h:Y5.f k l0 a1 a2=some (r1,r2,r3)) :
  Calls Try.prog 19 #[.slice A0 l0.length c0,.int .i64 a1,.int .i64 a2] w fun e w'=>e = .returned (.tuple #[.agg #[.int .i64 r1,.int .i64 r2],.int .i64 r3])∧Below w.heap.size w w':=by
 have qdL:=Try.underlying25
 have qGR:=Try.underlying68
 have HR0:=Q1.mk hr0
 have HC0:=Q1.mk hc0
 clear hr0 hc0
 have HB:=Q1.mk (Below.refl w.heap.size w)
 have H:(Y5.l0 k l0 a1 a2 (decide ((l0.length:Int)≤20)) l0 (l0.length:Int) 0)=some (r1,r2,r3):=h
 clear h
 have H':=Q1.mk H
 clear H
 go_enter Try.func19,Try.ntmps19
 go_wp2_with (first|((with_reducible refine QR (N:=6) rfl ?_);refine Yf ?hg (N:=6) ?hd (cs:=#[.int .i64 0,.int .i64 0]) (t:=25) ?hr ?_;(case hd=>rfl);(case hg=>rfl);(case hr=>first|(go_simp;done)|(go_simp;rfl));intro Jz hg w4 hbox hb;have n0_:=Q1.mk (Qi (by repeat (first|(with_reducible first|exact HB.out|apply Q2|apply Q0|apply Q3)|exact HB.out)) hb);have n1_:=Q1.mk (hbox);have n2_:=Q1.mk ((by rw [hg];exact (Qf (by repeat (first|(with_reducible first|exact HB.out|apply Q2|apply Q0|apply Q3)|exact HB.out))):w.heap.size≤Jz));have n3_:=n2_;clear HB;have HB:=n0_;have Zu:=n1_;have qG4:=n2_;have Ge:=n3_;clear n0_ n1_ n2_ n3_ hb hbox hg))
 go_loopg [8,19] k (fun kq v8 v19 w' => ∃ (Yx:Bool) (J7:Int),v8 = .bool Yx∧v19 = .int .i64 J7∧Q1 (Y5.l0 kq l0 a1 a2 Yx l0 (l0.length:Int) J7=some (r1,r2,r3))∧Q1 (kq≤k)∧Q1 (w'.heap[Jz]? = some (.cells #[.int .i64 0,.int .i64 0] 25 (0,0)))∧Q1 (Below w.heap.size w w'))
 case atStart=>exact ⟨(decide ((l0.length:Int)≤20)),(0),(by first|rfl|(simp;done)|(simp [*];done)),(by first|rfl|(simp;done)|(simp [*];done)),H',⟨Nat.le_refl _⟩,⟨by (with_reducible repeat (first|refine Q5 ?_ _|refine Q9 ?_|refine Q4 ?_ _));exact Zu.out⟩,⟨by repeat (first|(with_reducible first|exact HB.out|apply Q2|apply Q0|apply Q3|refine Q7 ?_ Ge.out)|exact HB.out)⟩⟩
 case round =>
  clear H'
  try clear c1
  try clear p2
  obtain ⟨Yx,J7,rfl,rfl,HA,HK1,Zu,HB⟩:=hrel
  cases gk with
  | zero=>exact absurd HA.out (by simp [Y5.l0])
  | succ k1 =>
   have H:=HA.out
   clear HA
   simp only [Y5.l0] at H
   by_cases c5:J7<(l0.length:Int)
   ·
    rw [if_pos c5] at H;have c5b0:decide (J7<(l0.length:Int))=true:=decide_eq_true c5;clear c5
    by_cases c6:0≤J7
    ·
     rw [if_pos c6] at H;have c6b0:decide (0≤J7)=true:=decide_eq_true c6;clear c6
     by_cases c7:J7<(l0.length:Int)
     ·
      rw [if_pos c7] at H;have c7b0:decide (J7<(l0.length:Int))=true:=decide_eq_true c7;clear c7
      by_cases c8:Yx=true
      ·
       subst c8
       have H1:((Qn.f ((Yn l0 J7).f0) 0 10000).bind fun t105=>(if t105=true then ((JH.f ((Yn l0 J7).f1.f0) ((Yn l0 J7).f1.f1) 20).bind fun qe8=>(Y5.l0 k1 l0 a1 a2 qe8 l0 (l0.length:Int) (wrap64 (J7+1)))) else (Y5.l0 k1 l0 a1 a2 false l0 (l0.length:Int) (wrap64 (J7+1)))))=some (r1,r2,r3):=by rw [if_pos rfl] at H;exact H
       clear H;have H:=H1;clear H1;replace H:=Option.bind_eq_some_iff.mp H;obtain ⟨t105,A90,H⟩:=H;replace H:(if t105=true then ((JH.f ((Yn l0 J7).f1.f0) ((Yn l0 J7).f1.f1) 20).bind fun qe8=>(Y5.l0 k1 l0 a1 a2 qe8 l0 (l0.length:Int) (wrap64 (J7+1)))) else (Y5.l0 k1 l0 a1 a2 false l0 (l0.length:Int) (wrap64 (J7+1))))=some (r1,r2,r3):=H;have A9:=Q1.mk A90;clear A90
       by_cases c10:t105=true
       ·
        subst c10
        have H1:((JH.f ((Yn l0 J7).f1.f0) ((Yn l0 J7).f1.f1) 20).bind fun qe8=>(Y5.l0 k1 l0 a1 a2 qe8 l0 (l0.length:Int) (wrap64 (J7+1))))=some (r1,r2,r3):=by rw [if_pos rfl] at H;exact H
        clear H;have H:=H1;clear H1;replace H:=Option.bind_eq_some_iff.mp H;obtain ⟨qe8,qey,H⟩:=H;replace H:(Y5.l0 k1 l0 a1 a2 qe8 l0 (l0.length:Int) (wrap64 (J7+1)))=some (r1,r2,r3):=H;have A11:=Q1.mk qey;clear qey;have H':=Q1.mk H;clear H;have qcS:0≤(J7:Int):=of_decide_eq_true (by first|(with_reducible assumption)|assumption);have qcT:J7<(l0.length:Int):=of_decide_eq_true (by first|(with_reducible assumption)|assumption);obtain ⟨qtJ,qoM,KJ,KL,KM⟩:=qgd HR0.out J7 qcS qcT;cases qoM;replace KJ:=(HB.out.cell (World.block_lt_of_cell? w _ KJ)).trans KJ;replace KL:=(HB.out.cell (World.block_lt_of_cell? w _ KL)).trans KL;replace KM:=(HB.out.cell (World.block_lt_of_cell? w _ KM)).trans KM;replace qcS:=eq_true qcS;replace qcT:=eq_true qcT
        go_wp2_with (first|((with_reducible refine QR (N:=10) rfl ?_);refine Yf ?hg (N:=10) ?hd (cs:=#[.int .i64 0,.int .i64 0,.int .i64 0]) (t:=68) ?hr ?_;(case hd=>rfl);(case hg=>rfl);(case hr=>first|(go_simp;done)|(go_simp;rfl));intro KE hg w12 hbox hb;have n0_:=Q1.mk (Qg (g:=Jz) (by (with_reducible repeat (first|refine Q5 ?_ _|refine Q9 ?_|refine Q4 ?_ _));exact Zu.out) hb);have n1_:=Q1.mk (Qi (by repeat (first|(with_reducible first|exact HB.out|apply Q2|apply Q0|apply Q3|refine Q7 ?_ Ge.out)|exact HB.out)) hb);have n2_:=Q1.mk (hbox);have n3_:=Q1.mk ((by rw [hg];exact (Qf (by repeat (first|(with_reducible first|exact HB.out|apply Q2|apply Q0|apply Q3|refine Q7 ?_ Ge.out)|exact HB.out))):w.heap.size≤KE));have n4_:=n3_;have n5_:=Q1.mk ((by rw [hg];exact Nat.ne_of_lt (Y0 (g:=Jz) (by (with_reducible repeat (first|refine Q5 ?_ _|refine Q9 ?_|refine Q4 ?_ _));exact Zu.out)):Jz≠KE));have n6_:=Q1.mk (n5_.out.symm);clear Zu HB;have Zu:=n0_;have HB:=n1_;have KP:=n2_;have qs5:=n3_;have qfI:=n4_;have Gf:=n5_;have Xl:=n6_;clear n0_ n1_ n2_ n3_ n4_ n5_ n6_ hb hbox hg;have qH3:=Xl.out;have qIF:=Gf.out;have JL:w12.cell? ⟨KE,0,none⟩=some (.int .i64 0):=(Q6 KP.out 0).trans rfl;have JM:w12.cell? ⟨KE,1,none⟩=some (.int .i64 0):=(Q6 KP.out 1).trans rfl;have JN:w12.cell? ⟨KE,2,none⟩=some (.int .i64 0):=(Q6 KP.out 2).trans rfl;have JO:=Q8 KP.out 0;have JP:=Q8 KP.out 1;have JQ:=Q8 KP.out 2)|(go_at_call 65;(with_reducible refine (Qn.calls ((Yn l0 J7).f0) 0 10000 true _ A9.out).mono ?_);rintro e w' ⟨rfl,⟨nd,rfl⟩⟩)|(go_at_call 66;(with_reducible refine (JH.calls ((Yn l0 J7).f1.f0) ((Yn l0 J7).f1.f1) 20 qe8 _ A11.out).mono ?_);rintro e w15 ⟨rfl,hb⟩;have n0_:=Q1.mk (Qg (g:=Jz) (o:=.cells #[.int .i64 0,.int .i64 0] 25 (0,0)) (by (with_reducible repeat (first|refine Q5 ?_ _|refine Q9 ?_|refine Q4 ?_ _));refine Qp ?_ Gf.out _;(with_reducible repeat (first|refine Q5 ?_ _|refine Q9 ?_|refine Q4 ?_ _));refine Qp ?_ Gf.out _;(with_reducible repeat (first|refine Q5 ?_ _|refine Q9 ?_|refine Q4 ?_ _));refine Qp ?_ Gf.out _;(with_reducible repeat (first|refine Q5 ?_ _|refine Q9 ?_|refine Q4 ?_ _));exact Zu.out) hb);have n1_:=Q1.mk (Qg (g:=KE) (o:=.cells #[.int .i64 ((Yn l0 J7).f0),.int .i64 ((Yn l0 J7).f1.f0),.int .i64 ((Yn l0 J7).f1.f1)] 68 (0,0)) (by (with_reducible repeat (first|refine Q5 ?_ _|refine Q9 ?_|refine Q4 ?_ _));refine QM (cs:=#[.int .i64 ((Yn l0 J7).f0),.int .i64 ((Yn l0 J7).f1.f0),.int .i64 0]) ?_ 2 _ rfl;(with_reducible repeat (first|refine Q5 ?_ _|refine Q9 ?_|refine Q4 ?_ _));refine QM (cs:=#[.int .i64 ((Yn l0 J7).f0),.int .i64 0,.int .i64 0]) ?_ 1 _ rfl;(with_reducible repeat (first|refine Q5 ?_ _|refine Q9 ?_|refine Q4 ?_ _));refine QM (cs:=#[.int .i64 0,.int .i64 0,.int .i64 0]) ?_ 0 _ rfl;(with_reducible repeat (first|refine Q5 ?_ _|refine Q9 ?_|refine Q4 ?_ _));exact KP.out) hb);have n2_:=Q1.mk (Qi (by repeat (first|(with_reducible first|exact HB.out|apply Q2|apply Q0|apply Q3|refine Q7 ?_ Ge.out|refine Q7 ?_ qfI.out)|exact HB.out)) hb);clear Zu KP HB;have Zu:=n0_;have KP:=n1_;have HB:=n2_;clear n0_ n1_ n2_;(try clear hb);(try clear hb2);(try clear hk);(try clear hi)))
        go_roundg k1
        case measure=>have:=HK1.out;omega
        case rel=>exact ⟨(qe8),(wrap64 (J7+1)),(by first|rfl|(simp;done)|(simp [*];done)),(by first|rfl|(simp;done)|(simp [*];done)),H',⟨by have:=HK1.out;omega⟩,⟨by (with_reducible repeat (first|refine Q5 ?_ _|refine Q9 ?_|refine Q4 ?_ _));exact Zu.out⟩,⟨by repeat (first|(with_reducible first|exact HB.out|apply Q2|apply Q0|apply Q3|refine Q7 ?_ Ge.out|refine Q7 ?_ qfI.out)|exact HB.out)⟩⟩
       replace c10:=Bool.eq_false_iff.mpr c10;subst c10
       have H1:(Y5.l0 k1 l0 a1 a2 false l0 (l0.length:Int) (wrap64 (J7+1)))=some (r1,r2,r3):=by rw [if_neg (show ¬ (false=true) by decide)] at H;exact H
       clear H;have H:=H1;clear H1;have H':=Q1.mk H;clear H;have qcS:0≤(J7:Int):=of_decide_eq_true (by first|(with_reducible assumption)|assumption);have qcT:J7<(l0.length:Int):=of_decide_eq_true (by first|(with_reducible assumption)|assumption);obtain ⟨qtJ,qoM,KJ,KL,KM⟩:=qgd HR0.out J7 qcS qcT;cases qoM;replace KJ:=(HB.out.cell (World.block_lt_of_cell? w _ KJ)).trans KJ;replace KL:=(HB.out.cell (World.block_lt_of_cell? w _ KL)).trans KL;replace KM:=(HB.out.cell (World.block_lt_of_cell? w _ KM)).trans KM;replace qcS:=eq_true qcS;replace qcT:=eq_true qcT
       go_wp2_with (first|((with_reducible refine QR (N:=10) rfl ?_);refine Yf ?hg (N:=10) ?hd (cs:=#[.int .i64 0,.int .i64 0,.int .i64 0]) (t:=68) ?hr ?_;(case hd=>rfl);(case hg=>rfl);(case hr=>first|(go_simp;done)|(go_simp;rfl));intro KE hg w16 hbox hb;have n0_:=Q1.mk (Qg (g:=Jz) (by (with_reducible repeat (first|refine Q5 ?_ _|refine Q9 ?_|refine Q4 ?_ _));exact Zu.out) hb);have n1_:=Q1.mk (Qi (by repeat (first|(with_reducible first|exact HB.out|apply Q2|apply Q0|apply Q3|refine Q7 ?_ Ge.out)|exact HB.out)) hb);have n2_:=Q1.mk (hbox);have n3_:=Q1.mk ((by rw [hg];exact (Qf (by repeat (first|(with_reducible first|exact HB.out|apply Q2|apply Q0|apply Q3|refine Q7 ?_ Ge.out)|exact HB.out))):w.heap.size≤KE));have n4_:=n3_;have n5_:=Q1.mk ((by rw [hg];exact Nat.ne_of_lt (Y0 (g:=Jz) (by (with_reducible repeat (first|refine Q5 ?_ _|refine Q9 ?_|refine Q4 ?_ _));exact Zu.out)):Jz≠KE));have n6_:=Q1.mk (n5_.out.symm);clear Zu HB;have Zu:=n0_;have HB:=n1_;have KP:=n2_;have qs5:=n3_;have qfI:=n4_;have Gf:=n5_;have Xl:=n6_;clear n0_ n1_ n2_ n3_ n4_ n5_ n6_ hb hbox hg;have qyP:=Xl.out;have qy3:=Gf.out;have UW:w16.cell? ⟨KE,0,none⟩=some (.int .i64 0):=(Q6 KP.out 0).trans rfl;have UX:w16.cell? ⟨KE,1,none⟩=some (.int .i64 0):=(Q6 KP.out 1).trans rfl;have UY:w16.cell? ⟨KE,2,none⟩=some (.int .i64 0):=(Q6 KP.out 2).trans rfl;have UZ:=Q8 KP.out 0;have W4:=Q8 KP.out 1;have W5:=Q8 KP.out 2)|(go_at_call 65;(with_reducible refine (Qn.calls ((Yn l0 J7).f0) 0 10000 false _ A9.out).mono ?_);rintro e w' ⟨rfl,⟨nd,rfl⟩⟩))
       go_roundg k1
       case measure=>have:=HK1.out;omega
       case rel=>exact ⟨(false),(wrap64 (J7+1)),(by first|rfl|(simp;done)|(simp [*];done)),(by first|rfl|(simp;done)|(simp [*];done)),H',⟨by have:=HK1.out;omega⟩,⟨by (with_reducible repeat (first|refine Q5 ?_ _|refine Q9 ?_|refine Q4 ?_ _));refine Qp ?_ Gf.out _;(with_reducible repeat (first|refine Q5 ?_ _|refine Q9 ?_|refine Q4 ?_ _));refine Qp ?_ Gf.out _;(with_reducible repeat (first|refine Q5 ?_ _|refine Q9 ?_|refine Q4 ?_ _));refine Qp ?_ Gf.out _;(with_reducible repeat (first|refine Q5 ?_ _|refine Q9 ?_|refine Q4 ?_ _));exact Zu.out⟩,⟨by repeat (first|(with_reducible first|exact HB.out|apply Q2|apply Q0|apply Q3|refine Q7 ?_ Ge.out|refine Q7 ?_ qfI.out)|exact HB.out)⟩⟩
      replace c8:=Bool.eq_false_iff.mpr c8;subst c8
      have H1:(Y5.l0 k1 l0 a1 a2 false l0 (l0.length:Int) (wrap64 (J7+1)))=some (r1,r2,r3):=by rw [if_neg (show ¬ (false=true) by decide)] at H;exact H
      clear H;have H:=H1;clear H1;have H':=Q1.mk H;clear H;have qcS:0≤(J7:Int):=of_decide_eq_true (by first|(with_reducible assumption)|assumption);have qcT:J7<(l0.length:Int):=of_decide_eq_true (by first|(with_reducible assumption)|assumption);obtain ⟨qtJ,qoM,KJ,KL,KM⟩:=qgd HR0.out J7 qcS qcT;cases qoM;replace KJ:=(HB.out.cell (World.block_lt_of_cell? w _ KJ)).trans KJ;replace KL:=(HB.out.cell (World.block_lt_of_cell? w _ KL)).trans KL;replace KM:=(HB.out.cell (World.block_lt_of_cell? w _ KM)).trans KM;replace qcS:=eq_true qcS;replace qcT:=eq_true qcT
      go_wp2_with (first|((with_reducible refine QR (N:=10) rfl ?_);refine Yf ?hg (N:=10) ?hd (cs:=#[.int .i64 0,.int .i64 0,.int .i64 0]) (t:=68) ?hr ?_;(case hd=>rfl);(case hg=>rfl);(case hr=>first|(go_simp;done)|(go_simp;rfl));intro KE hg w19 hbox hb;have n0_:=Q1.mk (Qg (g:=Jz) (by (with_reducible repeat (first|refine Q5 ?_ _|refine Q9 ?_|refine Q4 ?_ _));exact Zu.out) hb);have n1_:=Q1.mk (Qi (by repeat (first|(with_reducible first|exact HB.out|apply Q2|apply Q0|apply Q3|refine Q7 ?_ Ge.out)|exact HB.out)) hb);have n2_:=Q1.mk (hbox);have n3_:=Q1.mk ((by rw [hg];exact (Qf (by repeat (first|(with_reducible first|exact HB.out|apply Q2|apply Q0|apply Q3|refine Q7 ?_ Ge.out)|exact HB.out))):w.heap.size≤KE));have n4_:=n3_;have n5_:=Q1.mk ((by rw [hg];exact Nat.ne_of_lt (Y0 (g:=Jz) (by (with_reducible repeat (first|refine Q5 ?_ _|refine Q9 ?_|refine Q4 ?_ _));exact Zu.out)):Jz≠KE));have n6_:=Q1.mk (n5_.out.symm);clear Zu HB;have Zu:=n0_;have HB:=n1_;have KP:=n2_;have qs5:=n3_;have qfI:=n4_;have Gf:=n5_;have Xl:=n6_;clear n0_ n1_ n2_ n3_ n4_ n5_ n6_ hb hbox hg;have qyQ:=Xl.out;have qy4:=Gf.out;have Uy:w19.cell? ⟨KE,0,none⟩=some (.int .i64 0):=(Q6 KP.out 0).trans rfl;have Uz:w19.cell? ⟨KE,1,none⟩=some (.int .i64 0):=(Q6 KP.out 1).trans rfl;have UA:w19.cell? ⟨KE,2,none⟩=some (.int .i64 0):=(Q6 KP.out 2).trans rfl;have UB:=Q8 KP.out 0;have UC:=Q8 KP.out 1;have UD:=Q8 KP.out 2))
      go_roundg k1
      case measure=>have:=HK1.out;omega
      case rel=>exact ⟨(false),(wrap64 (J7+1)),(by first|rfl|(simp;done)|(simp [*];done)),(by first|rfl|(simp;done)|(simp [*];done)),H',⟨by have:=HK1.out;omega⟩,⟨by (with_reducible repeat (first|refine Q5 ?_ _|refine Q9 ?_|refine Q4 ?_ _));refine Qp ?_ Gf.out _;(with_reducible repeat (first|refine Q5 ?_ _|refine Q9 ?_|refine Q4 ?_ _));refine Qp ?_ Gf.out _;(with_reducible repeat (first|refine Q5 ?_ _|refine Q9 ?_|refine Q4 ?_ _));refine Qp ?_ Gf.out _;(with_reducible repeat (first|refine Q5 ?_ _|refine Q9 ?_|refine Q4 ?_ _));exact Zu.out⟩,⟨by repeat (first|(with_reducible first|exact HB.out|apply Q2|apply Q0|apply Q3|refine Q7 ?_ Ge.out|refine Q7 ?_ qfI.out)|exact HB.out)⟩⟩
     rw [if_neg c7] at H
     exact absurd H (by simp)
    rw [if_neg c6] at H
    exact absurd H (by simp)
   rw [if_neg c5] at H
   have c5b0:decide (J7<(l0.length:Int))=false:=decide_eq_false c5
   clear c5
   by_cases c22:Yx=true
   ·
    subst c22
    have H1:((Qn.f a1 0 20).bind fun t107=>(if t107=true then ((Qn.f a2 a1 20).bind fun qpM=>(Y5.j1 k1 l0 a1 a2 (!qpM))) else (Y5.j1 k1 l0 a1 a2 true)))=some (r1,r2,r3):=by rw [if_pos rfl] at H;exact H
    clear H;have H:=H1;clear H1;have qjM:=Q1.mk H;clear H
    go_upto_region 9 with (fail)
    go_cut [46] (fun v46 wc => ∃ (kq:Nat) (qhB:Bool),v46 = .bool qhB∧Q1 (Y5.j1 kq l0 a1 a2 qhB=some (r1,r2,r3))∧Q1 (kq≤k1)∧Q1 (wc.heap[Jz]? = some (.cells #[.int .i64 0,.int .i64 0] 25 (0,0)))∧Q1 (Below w.heap.size w wc))
    case first =>
     have H:=qjM.out;clear qjM;replace H:=Option.bind_eq_some_iff.mp H;obtain ⟨t107,qhP,H⟩:=H;replace H:(if t107=true then ((Qn.f a2 a1 20).bind fun qpM=>(Y5.j1 k1 l0 a1 a2 (!qpM))) else (Y5.j1 k1 l0 a1 a2 true))=some (r1,r2,r3):=H;have A24:=Q1.mk qhP;clear qhP
     by_cases c25:t107=true
     ·
      subst c25
      have H1:((Qn.f a2 a1 20).bind fun qpM=>(Y5.j1 k1 l0 a1 a2 (!qpM)))=some (r1,r2,r3):=by rw [if_pos rfl] at H;exact H
      clear H;have H:=H1;clear H1;replace H:=Option.bind_eq_some_iff.mp H;obtain ⟨qpM,qwh,H⟩:=H;replace H:(Y5.j1 k1 l0 a1 a2 (!qpM))=some (r1,r2,r3):=H;have A26:=Q1.mk qwh;clear qwh;have H':=Q1.mk H;clear H
      go_wp2_with (first|((with_reducible refine Qu (f:=65) rfl ?_);refine Yk (some 39) rfl rfl Try.func65 (by kernel_rfl) rfl #[.int .i64 a1,.int .i64 0,.int .i64 20] rfl (by (try simp only [List.map_toArray,List.map_cons,List.map_nil]);first|done|rfl|(simp only [List.length_drop,List.length_take];rfl)) ?_;(with_reducible refine (Qn.calls a1 0 20 true _ A24.out).mono ?_);rintro e w' ⟨rfl,⟨nd,rfl⟩⟩;refine ⟨_,rfl,?_⟩)|(go_at_call 65;(with_reducible refine (Qn.calls a2 a1 20 qpM _ A26.out).mono ?_);rintro e w' ⟨rfl,⟨nd,rfl⟩⟩))
      go_meet
      case rel=>exact ⟨_,(!qpM),(by first|rfl|(simp;done)|(simp [*];done)),H',⟨by have:=HK1.out;first|omega|exact Nat.le_refl _⟩,⟨by (with_reducible repeat (first|refine Q5 ?_ _|refine Q9 ?_|refine Q4 ?_ _));exact Zu.out⟩,⟨by repeat (first|(with_reducible first|exact HB.out|apply Q2|apply Q0|apply Q3|refine Q7 ?_ Ge.out)|exact HB.out)⟩⟩
     replace c25:=Bool.eq_false_iff.mpr c25;subst c25
     have H1:(Y5.j1 k1 l0 a1 a2 true)=some (r1,r2,r3):=by rw [if_neg (show ¬ (false=true) by decide)] at H;exact H
     clear H;have H:=H1;clear H1;have H':=Q1.mk H;clear H
     go_wp2_with (first|((with_reducible refine Qu (f:=65) rfl ?_);refine Yk (some 39) rfl rfl Try.func65 (by kernel_rfl) rfl #[.int .i64 a1,.int .i64 0,.int .i64 20] rfl (by (try simp only [List.map_toArray,List.map_cons,List.map_nil]);first|done|rfl|(simp only [List.length_drop,List.length_take];rfl)) ?_;(with_reducible refine (Qn.calls a1 0 20 false _ A24.out).mono ?_);rintro e w' ⟨rfl,⟨nd,rfl⟩⟩;refine ⟨_,rfl,?_⟩))
     go_meet
     case rel=>exact ⟨_,(true),(by first|rfl|(simp;done)|(simp [*];done)),H',⟨by have:=HK1.out;first|omega|exact Nat.le_refl _⟩,⟨by (with_reducible repeat (first|refine Q5 ?_ _|refine Q9 ?_|refine Q4 ?_ _));exact Zu.out⟩,⟨by repeat (first|(with_reducible first|exact HB.out|apply Q2|apply Q0|apply Q3|refine Q7 ?_ Ge.out)|exact HB.out)⟩⟩
    case rest =>
     clear qjM;(try clear c1);(try clear p1);(try clear q1);(try clear hx1);(try clear c2);(try clear p2);(try clear c5);(try clear c5b0);(try clear c6);(try clear c6b0);(try clear p6);(try clear c7);(try clear c7b0);(try clear c8);(try clear c10);(try clear p10);(try clear q10);(try clear qzl);(try clear c13);(try clear c17);(try clear c19);(try clear c20);(try clear c22);(try clear c25);(try clear JL);(try clear JM);(try clear JN);(try clear UW);(try clear UX);(try clear UY);(try clear Uy);(try clear Uz);(try clear UA);(try clear JO);(try clear JP);(try clear JQ);(try clear UZ);(try clear W4);(try clear W5);(try clear UB);(try clear UC);(try clear UD);(try clear KJ);(try clear KL);(try clear KM);(try clear qcS);(try clear p2);(try clear qcT);obtain ⟨kq,qhB,rfl,HA,X8,Zu,HB⟩:=hcut
     cases kq with
     | zero=>exact absurd HA.out (by simp [Y5.j1])
     | succ qap =>
      have H:=HA.out;clear HA;simp only [Y5.j1] at H
      by_cases c27:qhB=true
      ·
       subst c27
       have H1:(some (0,0,7))=some (r1,r2,r3):=by rw [if_pos rfl] at H;exact H
       clear H;have H:=H1;clear H1;simp only [Option.some.injEq,Prod.mk.injEq] at H;obtain ⟨rfl,rfl,rfl⟩:=H;have qb7:wc.cell? ⟨Jz,0,none⟩=some (.int .i64 0):=(Q6 Zu.out 0).trans rfl;have qb8:wc.cell? ⟨Jz,1,none⟩=some (.int .i64 0):=(Q6 Zu.out 1).trans rfl;have qce:=Q8 Zu.out 0;have qcf:=Q8 Zu.out 1
       go_wp2
       refine bodyPost_ret (qbG rfl _ _ Jz 25 #[.int .i64 0,.int .i64 0] (0,0) _ rfl (by (with_reducible repeat (first|refine Q5 ?_ _|refine Q9 ?_|refine Q4 ?_ _));refine QM (cs:=#[.int .i64 0,.int .i64 0]) ?_ 1 _ rfl;(with_reducible repeat (first|refine Q5 ?_ _|refine Q9 ?_|refine Q4 ?_ _));refine QM (cs:=#[.int .i64 0,.int .i64 0]) ?_ 0 _ rfl;(with_reducible repeat (first|refine Q5 ?_ _|refine Q9 ?_|refine Q4 ?_ _));exact Zu.out) Try.underlying25 rfl (by kernel_rfl)) rfl ?_
       exact ⟨by first|rfl|(simp [Qw,Qx]<;>rfl)|(simp [*,Qw,Qx]<;>rfl),by repeat (first|(with_reducible first|exact HB.out|apply Q2|apply Q0|apply Q3|refine Q7 ?_ Ge.out)|exact HB.out)⟩
      replace c27:=Bool.eq_false_iff.mpr c27;subst c27
      have H1:(Y5.l1 qap a1 a2 l0 (l0.length:Int) 0 0 0)=some (r1,r2,r3):=by rw [if_neg (show ¬ (false=true) by decide)] at H;exact H
      clear H;have H:=H1;clear H1;have H':=Q1.mk H;clear H
      go_wp2_with (first|((with_reducible refine QR (N:=11) rfl ?_);refine Yf ?hg (N:=11) ?hd (cs:=#[.int .i64 0,.int .i64 0]) (t:=25) ?hr ?_;(case hd=>rfl);(case hg=>rfl);(case hr=>first|(go_simp;done)|(go_simp;rfl));intro Ol hg w29 hbox hb;have n0_:=Q1.mk (Qg (g:=Jz) (by (with_reducible repeat (first|refine Q5 ?_ _|refine Q9 ?_|refine Q4 ?_ _));exact Zu.out) hb);have n1_:=Q1.mk (Qi (by repeat (first|(with_reducible first|exact HB.out|apply Q2|apply Q0|apply Q3|refine Q7 ?_ Ge.out)|exact HB.out)) hb);have n2_:=Q1.mk (hbox);have n3_:=Q1.mk ((by rw [hg];exact (Qf (by repeat (first|(with_reducible first|exact HB.out|apply Q2|apply Q0|apply Q3|refine Q7 ?_ Ge.out)|exact HB.out))):w.heap.size≤Ol));have n4_:=n3_;have n5_:=Q1.mk ((by rw [hg];exact Nat.ne_of_lt (Y0 (g:=Jz) (by (with_reducible repeat (first|refine Q5 ?_ _|refine Q9 ?_|refine Q4 ?_ _));exact Zu.out)):Jz≠Ol));have n6_:=Q1.mk (n5_.out.symm);clear Zu HB;have Zu:=n0_;have HB:=n1_;have G2:=n2_;have qG5:=n3_;have Xh:=n4_;have Kt:=n5_;have Xm:=n6_;clear n0_ n1_ n2_ n3_ n4_ n5_ n6_ hb hbox hg))
      go_loopg [50] qap (fun kq v50 w' => ∃ (YU:Int) (Za:Int) (Zc:Int),v50 = .int .i64 YU∧Q1 (Y5.l1 kq a1 a2 l0 (l0.length:Int) YU Za Zc=some (r1,r2,r3))∧Q1 (kq≤qap)∧Q1 (w'.heap[Jz]? = some (.cells #[.int .i64 0,.int .i64 0] 25 (0,0)))∧Q1 (w'.heap[Ol]? = some (.cells #[.int .i64 Za,.int .i64 Zc] 25 (0,0)))∧Q1 (Below w.heap.size w w'))
      case atStart=>exact ⟨(0),(0),(0),(by first|rfl|(simp;done)|(simp [*];done)),H',⟨Nat.le_refl _⟩,⟨by (with_reducible repeat (first|refine Q5 ?_ _|refine Q9 ?_|refine Q4 ?_ _));exact Zu.out⟩,⟨by (with_reducible repeat (first|refine Q5 ?_ _|refine Q9 ?_|refine Q4 ?_ _));exact G2.out⟩,⟨by repeat (first|(with_reducible first|exact HB.out|apply Q2|apply Q0|apply Q3|refine Q7 ?_ Ge.out|refine Q7 ?_ Xh.out)|exact HB.out)⟩⟩
      case round =>
       clear H';(try clear c1);(try clear p1);(try clear q1);(try clear hx1);(try clear c2);(try clear p2);(try clear c5);(try clear c5b0);(try clear c6);(try clear c6b0);(try clear p6);(try clear c7);(try clear c7b0);(try clear c8);(try clear c10);(try clear p10);(try clear q10);(try clear qzl);(try clear c13);(try clear c17);(try clear c19);(try clear c20);(try clear c22);(try clear c25);(try clear c27);(try clear JL);(try clear JM);(try clear JN);(try clear UW);(try clear UX);(try clear UY);(try clear Uy);(try clear Uz);(try clear UA);(try clear qb7);(try clear qb8);(try clear JO);(try clear JP);(try clear JQ);(try clear UZ);(try clear W4);(try clear W5);(try clear UB);(try clear UC);(try clear UD);(try clear qce);(try clear qcf);(try clear KJ);(try clear KL);(try clear KM);(try clear p1);(try clear p10);(try clear qcS);(try clear p2);(try clear p6);(try clear q1);(try clear q10);(try clear qcT);obtain ⟨YU,Za,Zc,rfl,HA,HK3,Zu,G2,HB⟩:=hrel
       cases gk with
       | zero=>exact absurd HA.out (by simp [Y5.l1])
       | succ k3 =>
        have H:=HA.out;clear HA;simp only [Y5.l1] at H
        by_cases c30:YU<(l0.length:Int)
        ·
         rw [if_pos c30] at H;have c30b0:decide (YU<(l0.length:Int))=true:=decide_eq_true c30;clear c30
         by_cases c31:0≤YU
         ·
          rw [if_pos c31] at H;have c31b0:decide (0≤YU)=true:=decide_eq_true c31;clear c31
          by_cases c32:YU<(l0.length:Int)
          ·
           rw [if_pos c32] at H;have c32b0:decide (YU<(l0.length:Int))=true:=decide_eq_true c32;clear c32;have qul:=Q1.mk H;clear H;have qsj:0≤(YU:Int):=of_decide_eq_true (by first|(with_reducible assumption)|assumption);have qss:YU<(l0.length:Int):=of_decide_eq_true (by first|(with_reducible assumption)|assumption);obtain ⟨qHq,qFB,qei,qej,qek⟩:=qgd HR0.out YU qsj qss;cases qFB;replace qei:=(HB.out.cell (World.block_lt_of_cell? w _ qei)).trans qei;replace qej:=(HB.out.cell (World.block_lt_of_cell? w _ qej)).trans qej;replace qek:=(HB.out.cell (World.block_lt_of_cell? w _ qek)).trans qek;replace qsj:=eq_true qsj;replace qss:=eq_true qss
           go_upto_region 15 with (first|((with_reducible refine QR (N:=13) rfl ?_);refine Yf ?hg (N:=13) ?hd (cs:=#[.int .i64 0,.int .i64 0,.int .i64 0]) (t:=68) ?hr ?_;(case hd=>rfl);(case hg=>rfl);(case hr=>first|(go_simp;done)|(go_simp;rfl));intro Gj hg w34 hbox hb;have n0_:=Q1.mk (Qg (g:=Jz) (by (with_reducible repeat (first|refine Q5 ?_ _|refine Q9 ?_|refine Q4 ?_ _));exact Zu.out) hb);have n1_:=Q1.mk (Qg (g:=Ol) (by (with_reducible repeat (first|refine Q5 ?_ _|refine Q9 ?_|refine Q4 ?_ _));exact G2.out) hb);have n2_:=Q1.mk (Qi (by repeat (first|(with_reducible first|exact HB.out|apply Q2|apply Q0|apply Q3|refine Q7 ?_ Ge.out|refine Q7 ?_ Xh.out)|exact HB.out)) hb);have n3_:=Q1.mk (hbox);have n4_:=Q1.mk ((by rw [hg];exact (Qf (by repeat (first|(with_reducible first|exact HB.out|apply Q2|apply Q0|apply Q3|refine Q7 ?_ Ge.out|refine Q7 ?_ Xh.out)|exact HB.out))):w.heap.size≤Gj));have n5_:=n4_;have n6_:=Q1.mk ((by rw [hg];exact Nat.ne_of_lt (Y0 (g:=Jz) (by (with_reducible repeat (first|refine Q5 ?_ _|refine Q9 ?_|refine Q4 ?_ _));exact Zu.out)):Jz≠Gj));have n7_:=Q1.mk (n6_.out.symm);have n8_:=Q1.mk ((by rw [hg];exact Nat.ne_of_lt (Y0 (g:=Ol) (by (with_reducible repeat (first|refine Q5 ?_ _|refine Q9 ?_|refine Q4 ?_ _));exact G2.out)):Ol≠Gj));have n9_:=Q1.mk (n8_.out.symm);clear Zu G2 HB;have Zu:=n0_;have G2:=n1_;have HB:=n2_;have ZH:=n3_;have qG6:=n4_;have qdt:=n5_;have JZ:=n6_;have KV:=n7_;have G0:=n8_;have KW:=n9_;clear n0_ n1_ n2_ n3_ n4_ n5_ n6_ n7_ n8_ n9_ hb hbox hg;have qyR:=KV.out;have qy5:=JZ.out;have qyS:=KW.out;have qy6:=G0.out;have qgm:w34.cell? ⟨Gj,0,none⟩=some (.int .i64 0):=(Q6 ZH.out 0).trans rfl;have qgn:w34.cell? ⟨Gj,1,none⟩=some (.int .i64 0):=(Q6 ZH.out 1).trans rfl;have qgo:w34.cell? ⟨Gj,2,none⟩=some (.int .i64 0):=(Q6 ZH.out 2).trans rfl;have qgB:=Q8 ZH.out 0;have qgC:=Q8 ZH.out 1;have qgD:=Q8 ZH.out 2))
           (try simp only [Act.put,List.setIfInBounds_toArray,List.set_cons_zero,List.set_cons_succ])
           go_cut [65] (fun v65 wc => ∃ (kq:Nat) (qhH:Bool),v65 = .bool qhH∧Q1 (Y5.j3 kq a1 a2 l0 (l0.length:Int) YU qhH Za Zc ((Yn l0 YU).f0) ((Yn l0 YU).f1.f0) ((Yn l0 YU).f1.f1)=some (r1,r2,r3))∧Q1 (kq≤k3)∧Q1 (wc.heap[Jz]? = some (.cells #[.int .i64 0,.int .i64 0] 25 (0,0)))∧Q1 (wc.heap[Ol]? = some (.cells #[.int .i64 Za,.int .i64 Zc] 25 (0,0)))∧Q1 (wc.heap[Gj]? = some (.cells #[.int .i64 ((Yn l0 YU).f0),.int .i64 ((Yn l0 YU).f1.f0),.int .i64 ((Yn l0 YU).f1.f1)] 68 (0,0)))∧Q1 (Below w.heap.size w wc))
           case first =>
            have H:=qul.out;clear qul
            by_cases c38:a1≤((Yn l0 YU).f1.f0)
            ·
             rw [if_pos c38] at H;have c38b0:decide (a1≤((Yn l0 YU).f1.f0))=true:=decide_eq_true c38;clear c38
             (first|rw [c38b0]|(simp only [QC,QD];rw [c38b0])|skip)
             have H':=Q1.mk H;clear H;have qtS:=KV.out;have qtT:=JZ.out;have qyT:=KW.out;have qy7:=G0.out;have qgp:w34.cell? ⟨Gj,0,none⟩=some (.int .i64 0):=(Q6 ZH.out 0).trans rfl;have qgq:w34.cell? ⟨Gj,1,none⟩=some (.int .i64 0):=(Q6 ZH.out 1).trans rfl;have qgr:w34.cell? ⟨Gj,2,none⟩=some (.int .i64 0):=(Q6 ZH.out 2).trans rfl;have qgE:=Q8 ZH.out 0;have qgF:=Q8 ZH.out 1;have qgG:=Q8 ZH.out 2
             go_wp2
             go_meet
             case rel=>exact ⟨_,(decide (((Yn l0 YU).f1.f1)≤a2)),(by first|rfl|(simp;done)|(simp [*];done)),H',⟨by have:=HK1.out;have:=X8.out;have:=HK3.out;first|omega|exact Nat.le_refl _⟩,⟨by (with_reducible repeat (first|refine Q5 ?_ _|refine Q9 ?_|refine Q4 ?_ _));refine Qp ?_ JZ.out _;(with_reducible repeat (first|refine Q5 ?_ _|refine Q9 ?_|refine Q4 ?_ _));refine Qp ?_ JZ.out _;(with_reducible repeat (first|refine Q5 ?_ _|refine Q9 ?_|refine Q4 ?_ _));refine Qp ?_ JZ.out _;(with_reducible repeat (first|refine Q5 ?_ _|refine Q9 ?_|refine Q4 ?_ _));exact Zu.out⟩,⟨by (with_reducible repeat (first|refine Q5 ?_ _|refine Q9 ?_|refine Q4 ?_ _));refine Qp ?_ G0.out _;(with_reducible repeat (first|refine Q5 ?_ _|refine Q9 ?_|refine Q4 ?_ _));refine Qp ?_ G0.out _;(with_reducible repeat (first|refine Q5 ?_ _|refine Q9 ?_|refine Q4 ?_ _));refine Qp ?_ G0.out _;(with_reducible repeat (first|refine Q5 ?_ _|refine Q9 ?_|refine Q4 ?_ _));exact G2.out⟩,⟨by (with_reducible repeat (first|refine Q5 ?_ _|refine Q9 ?_|refine Q4 ?_ _));refine QM (cs:=#[.int .i64 ((Yn l0 YU).f0),.int .i64 ((Yn l0 YU).f1.f0),.int .i64 0]) ?_ 2 _ rfl;(with_reducible repeat (first|refine Q5 ?_ _|refine Q9 ?_|refine Q4 ?_ _));refine QM (cs:=#[.int .i64 ((Yn l0 YU).f0),.int .i64 0,.int .i64 0]) ?_ 1 _ rfl;(with_reducible repeat (first|refine Q5 ?_ _|refine Q9 ?_|refine Q4 ?_ _));refine QM (cs:=#[.int .i64 0,.int .i64 0,.int .i64 0]) ?_ 0 _ rfl;(with_reducible repeat (first|refine Q5 ?_ _|refine Q9 ?_|refine Q4 ?_ _));exact ZH.out⟩,⟨by repeat (first|(with_reducible first|exact HB.out|apply Q2|apply Q0|apply Q3|refine Q7 ?_ Ge.out|refine Q7 ?_ Xh.out|refine Q7 ?_ qdt.out)|exact HB.out)⟩⟩
            rw [if_neg c38] at H;have c38b0:decide (a1≤((Yn l0 YU).f1.f0))=false:=decide_eq_false c38;clear c38
            (first|rw [c38b0]|(simp only [QC,QD];rw [c38b0])|skip)
            have H':=Q1.mk H;clear H;have qyU:=KV.out;have qy8:=JZ.out;have qIc:=KW.out;have qIO:=G0.out;have qrd:w34.cell? ⟨Gj,0,none⟩=some (.int .i64 0):=(Q6 ZH.out 0).trans rfl;have qre:w34.cell? ⟨Gj,1,none⟩=some (.int .i64 0):=(Q6 ZH.out 1).trans rfl;have qrf:w34.cell? ⟨Gj,2,none⟩=some (.int .i64 0):=(Q6 ZH.out 2).trans rfl;have qrR:=Q8 ZH.out 0;have qrS:=Q8 ZH.out 1;have qrT:=Q8 ZH.out 2
            go_wp2
            go_meet
            case rel=>exact ⟨_,(false),(by first|rfl|(simp;done)|(simp [*];done)),H',⟨by have:=HK1.out;have:=X8.out;have:=HK3.out;first|omega|exact Nat.le_refl _⟩,⟨by (with_reducible repeat (first|refine Q5 ?_ _|refine Q9 ?_|refine Q4 ?_ _));refine Qp ?_ JZ.out _;(with_reducible repeat (first|refine Q5 ?_ _|refine Q9 ?_|refine Q4 ?_ _));refine Qp ?_ JZ.out _;(with_reducible repeat (first|refine Q5 ?_ _|refine Q9 ?_|refine Q4 ?_ _));refine Qp ?_ JZ.out _;(with_reducible repeat (first|refine Q5 ?_ _|refine Q9 ?_|refine Q4 ?_ _));exact Zu.out⟩,⟨by (with_reducible repeat (first|refine Q5 ?_ _|refine Q9 ?_|refine Q4 ?_ _));refine Qp ?_ G0.out _;(with_reducible repeat (first|refine Q5 ?_ _|refine Q9 ?_|refine Q4 ?_ _));refine Qp ?_ G0.out _;(with_reducible repeat (first|refine Q5 ?_ _|refine Q9 ?_|refine Q4 ?_ _));refine Qp ?_ G0.out _;(with_reducible repeat (first|refine Q5 ?_ _|refine Q9 ?_|refine Q4 ?_ _));exact G2.out⟩,⟨by (with_reducible repeat (first|refine Q5 ?_ _|refine Q9 ?_|refine Q4 ?_ _));refine QM (cs:=#[.int .i64 ((Yn l0 YU).f0),.int .i64 ((Yn l0 YU).f1.f0),.int .i64 0]) ?_ 2 _ rfl;(with_reducible repeat (first|refine Q5 ?_ _|refine Q9 ?_|refine Q4 ?_ _));refine QM (cs:=#[.int .i64 ((Yn l0 YU).f0),.int .i64 0,.int .i64 0]) ?_ 1 _ rfl;(with_reducible repeat (first|refine Q5 ?_ _|refine Q9 ?_|refine Q4 ?_ _));refine QM (cs:=#[.int .i64 0,.int .i64 0,.int .i64 0]) ?_ 0 _ rfl;(with_reducible repeat (first|refine Q5 ?_ _|refine Q9 ?_|refine Q4 ?_ _));exact ZH.out⟩,⟨by repeat (first|(with_reducible first|exact HB.out|apply Q2|apply Q0|apply Q3|refine Q7 ?_ Ge.out|refine Q7 ?_ Xh.out|refine Q7 ?_ qdt.out)|exact HB.out)⟩⟩
           case rest =>
            clear qul;(try clear c1);(try clear p1);(try clear q1);(try clear hx1);(try clear c2);(try clear p2);(try clear c3);(try clear c4);(try clear c5);(try clear c5b0);(try clear c6);(try clear c6b0);(try clear p6);(try clear c7);(try clear c7b0);(try clear c8);(try clear c10);(try clear p10);(try clear q10);(try clear qzl);(try clear p11);(try clear q11);(try clear qKi);(try clear c13);(try clear c17);(try clear c19);(try clear c20);(try clear c22);(try clear c25);(try clear c27);(try clear c30);(try clear c30b0);(try clear c31);(try clear c31b0);(try clear c32);(try clear c32b0);(try clear c35);(try clear c36);(try clear c38);(try clear c38b0);(try clear c39);(try clear c40);(try clear c42);(try clear c43);(try clear JL);(try clear JM);(try clear JN);(try clear UW);(try clear UX);(try clear UY);(try clear Uy);(try clear Uz);(try clear UA);(try clear qb7);(try clear qb8);(try clear qgm);(try clear qgn);(try clear qgo);(try clear qgp);(try clear qgq);(try clear qgr);(try clear qrd);(try clear qre);(try clear qrf);(try clear JO);(try clear JP);(try clear JQ);(try clear UZ);(try clear W4);(try clear W5);(try clear UB);(try clear UC);(try clear UD);(try clear qce);(try clear qcf);(try clear qgB);(try clear qgC);(try clear qgD);(try clear qgE);(try clear qgF);(try clear qgG);(try clear qrR);(try clear qrS);(try clear qrT);(try clear KJ);(try clear KL);(try clear KM);(try clear qei);(try clear qej);(try clear qek);(try clear p1);(try clear p10);(try clear qcS);(try clear qsj);(try clear p2);(try clear p6);(try clear q1);(try clear q10);(try clear qcT);(try clear qss);obtain ⟨kq,qhH,rfl,HA,qdK,Zu,G2,ZH,HB⟩:=hcut
            cases kq with
            | zero=>exact absurd HA.out (by simp [Y5.j3])
            | succ qdM =>
             have H:=HA.out;clear HA;simp only [Y5.j3] at H
             by_cases c45:qhH=true
             ·
              subst c45
              have H1:(if a1≤((Yn l0 YU).f1.f1) then (if ((Yn l0 YU).f1.f0)≤a2 then (Y5.l1 qdM a1 a2 l0 (l0.length:Int) (wrap64 (YU+1)) (wrap64 (Za+((Yn l0 YU).f0))) (wrap64 (Zc+((Yn l0 YU).f0)))) else (Y5.l1 qdM a1 a2 l0 (l0.length:Int) (wrap64 (YU+1)) (wrap64 (Za+((Yn l0 YU).f0))) Zc)) else (Y5.l1 qdM a1 a2 l0 (l0.length:Int) (wrap64 (YU+1)) (wrap64 (Za+((Yn l0 YU).f0))) Zc))=some (r1,r2,r3):=by rw [if_pos rfl] at H;exact H
              clear H;have H:=H1;clear H1
              by_cases c46:a1≤((Yn l0 YU).f1.f1)
              ·
               rw [if_pos c46] at H;have c46b0:decide (a1≤((Yn l0 YU).f1.f1))=true:=decide_eq_true c46;clear c46
               by_cases c47:((Yn l0 YU).f1.f0)≤a2
               ·
                rw [if_pos c47] at H;have c47b0:decide (((Yn l0 YU).f1.f0)≤a2)=true:=decide_eq_true c47;clear c47;have H':=Q1.mk H;clear H;have qyV:=Xm.out;have qy9:=Kt.out;have qyW:=G0.out;have qza:=KW.out;have qrg:wc.cell? ⟨Ol,0,none⟩=some (.int .i64 Za):=(Q6 G2.out 0).trans rfl;have qrh:wc.cell? ⟨Ol,1,none⟩=some (.int .i64 Zc):=(Q6 G2.out 1).trans rfl;have qrU:=Q8 G2.out 0;have qrV:=Q8 G2.out 1;have qIf:=KV.out;have qIR:=JZ.out;have qAr:wc.cell? ⟨Gj,0,none⟩=some (.int .i64 ((Yn l0 YU).f0)):=(Q6 ZH.out 0).trans rfl;have qAs:wc.cell? ⟨Gj,1,none⟩=some (.int .i64 ((Yn l0 YU).f1.f0)):=(Q6 ZH.out 1).trans rfl;have qAt:wc.cell? ⟨Gj,2,none⟩=some (.int .i64 ((Yn l0 YU).f1.f1)):=(Q6 ZH.out 2).trans rfl;have qCg:=Q8 ZH.out 0;have qCh:=Q8 ZH.out 1;have qCi:=Q8 ZH.out 2
                go_wp2
                go_roundg qdM
                case measure=>have:=HK1.out;have:=X8.out;have:=HK3.out;have:=qdK.out;omega
                case rel=>exact ⟨(wrap64 (YU+1)),(wrap64 (Za+((Yn l0 YU).f0))),(wrap64 (Zc+((Yn l0 YU).f0))),(by first|rfl|(simp;done)|(simp [*];done)),H',⟨by have:=HK1.out;have:=X8.out;have:=HK3.out;have:=qdK.out;omega⟩,⟨by (with_reducible repeat (first|refine Q5 ?_ _|refine Q9 ?_|refine Q4 ?_ _));refine Qp ?_ Kt.out _;(with_reducible repeat (first|refine Q5 ?_ _|refine Q9 ?_|refine Q4 ?_ _));refine Qp ?_ Kt.out _;(with_reducible repeat (first|refine Q5 ?_ _|refine Q9 ?_|refine Q4 ?_ _));exact Zu.out⟩,⟨by (with_reducible repeat (first|refine Q5 ?_ _|refine Q9 ?_|refine Q4 ?_ _));refine QM (cs:=#[.int .i64 (wrap64 (Za+((Yn l0 YU).f0))),.int .i64 Zc]) ?_ 1 _ rfl;(with_reducible repeat (first|refine Q5 ?_ _|refine Q9 ?_|refine Q4 ?_ _));refine QM (cs:=#[.int .i64 Za,.int .i64 Zc]) ?_ 0 _ rfl;(with_reducible repeat (first|refine Q5 ?_ _|refine Q9 ?_|refine Q4 ?_ _));exact G2.out⟩,⟨by repeat (first|(with_reducible first|exact HB.out|apply Q2|apply Q0|apply Q3|refine Q7 ?_ Ge.out|refine Q7 ?_ Xh.out|refine Q7 ?_ qdt.out)|exact HB.out)⟩⟩
               rw [if_neg c47] at H;have c47b0:decide (((Yn l0 YU).f1.f0)≤a2)=false:=decide_eq_false c47;clear c47;have H':=Q1.mk H;clear H;have qIg:=Xm.out;have qIS:=Kt.out;have qIh:=G0.out;have qIT:=KW.out;have qAu:wc.cell? ⟨Ol,0,none⟩=some (.int .i64 Za):=(Q6 G2.out 0).trans rfl;have qAv:wc.cell? ⟨Ol,1,none⟩=some (.int .i64 Zc):=(Q6 G2.out 1).trans rfl;have qCj:=Q8 G2.out 0;have qCk:=Q8 G2.out 1;have qIi:=KV.out;have qIU:=JZ.out;have qAw:wc.cell? ⟨Gj,0,none⟩=some (.int .i64 ((Yn l0 YU).f0)):=(Q6 ZH.out 0).trans rfl;have qAx:wc.cell? ⟨Gj,1,none⟩=some (.int .i64 ((Yn l0 YU).f1.f0)):=(Q6 ZH.out 1).trans rfl;have qAy:wc.cell? ⟨Gj,2,none⟩=some (.int .i64 ((Yn l0 YU).f1.f1)):=(Q6 ZH.out 2).trans rfl;have qCl:=Q8 ZH.out 0;have qCm:=Q8 ZH.out 1;have qCn:=Q8 ZH.out 2
               go_wp2
               go_roundg qdM
               case measure=>have:=HK1.out;have:=X8.out;have:=HK3.out;have:=qdK.out;omega
               case rel=>exact ⟨(wrap64 (YU+1)),(wrap64 (Za+((Yn l0 YU).f0))),(Zc),(by first|rfl|(simp;done)|(simp [*];done)),H',⟨by have:=HK1.out;have:=X8.out;have:=HK3.out;have:=qdK.out;omega⟩,⟨by (with_reducible repeat (first|refine Q5 ?_ _|refine Q9 ?_|refine Q4 ?_ _));refine Qp ?_ Kt.out _;(with_reducible repeat (first|refine Q5 ?_ _|refine Q9 ?_|refine Q4 ?_ _));exact Zu.out⟩,⟨by (with_reducible repeat (first|refine Q5 ?_ _|refine Q9 ?_|refine Q4 ?_ _));refine QM (cs:=#[.int .i64 Za,.int .i64 Zc]) ?_ 0 _ rfl;(with_reducible repeat (first|refine Q5 ?_ _|refine Q9 ?_|refine Q4 ?_ _));exact G2.out⟩,⟨by repeat (first|(with_reducible first|exact HB.out|apply Q2|apply Q0|apply Q3|refine Q7 ?_ Ge.out|refine Q7 ?_ Xh.out|refine Q7 ?_ qdt.out)|exact HB.out)⟩⟩
              rw [if_neg c46] at H;have c46b0:decide (a1≤((Yn l0 YU).f1.f1))=false:=decide_eq_false c46;clear c46;have H':=Q1.mk H;clear H;have qyX:=Xm.out;have qzb:=Kt.out;have qyY:=G0.out;have qzc:=KW.out;have qAz:wc.cell? ⟨Ol,0,none⟩=some (.int .i64 Za):=(Q6 G2.out 0).trans rfl;have qAA:wc.cell? ⟨Ol,1,none⟩=some (.int .i64 Zc):=(Q6 G2.out 1).trans rfl;have qCo:=Q8 G2.out 0;have qCp:=Q8 G2.out 1;have qIk:=KV.out;have qIW:=JZ.out;have qAC:wc.cell? ⟨Gj,0,none⟩=some (.int .i64 ((Yn l0 YU).f0)):=(Q6 ZH.out 0).trans rfl;have qAD:wc.cell? ⟨Gj,1,none⟩=some (.int .i64 ((Yn l0 YU).f1.f0)):=(Q6 ZH.out 1).trans rfl;have qAE:wc.cell? ⟨Gj,2,none⟩=some (.int .i64 ((Yn l0 YU).f1.f1)):=(Q6 ZH.out 2).trans rfl;have qCr:=Q8 ZH.out 0;have qCs:=Q8 ZH.out 1;have qCt:=Q8 ZH.out 2
              go_wp2
              go_roundg qdM
              case measure=>have:=HK1.out;have:=X8.out;have:=HK3.out;have:=qdK.out;omega
              case rel=>exact ⟨(wrap64 (YU+1)),(wrap64 (Za+((Yn l0 YU).f0))),(Zc),(by first|rfl|(simp;done)|(simp [*];done)),H',⟨by have:=HK1.out;have:=X8.out;have:=HK3.out;have:=qdK.out;omega⟩,⟨by (with_reducible repeat (first|refine Q5 ?_ _|refine Q9 ?_|refine Q4 ?_ _));refine Qp ?_ Kt.out _;(with_reducible repeat (first|refine Q5 ?_ _|refine Q9 ?_|refine Q4 ?_ _));exact Zu.out⟩,⟨by (with_reducible repeat (first|refine Q5 ?_ _|refine Q9 ?_|refine Q4 ?_ _));refine QM (cs:=#[.int .i64 Za,.int .i64 Zc]) ?_ 0 _ rfl;(with_reducible repeat (first|refine Q5 ?_ _|refine Q9 ?_|refine Q4 ?_ _));exact G2.out⟩,⟨by repeat (first|(with_reducible first|exact HB.out|apply Q2|apply Q0|apply Q3|refine Q7 ?_ Ge.out|refine Q7 ?_ Xh.out|refine Q7 ?_ qdt.out)|exact HB.out)⟩⟩
             replace c45:=Bool.eq_false_iff.mpr c45;subst c45
             have H1:(if a1≤((Yn l0 YU).f1.f1) then (if ((Yn l0 YU).f1.f0)≤a2 then (Y5.l1 qdM a1 a2 l0 (l0.length:Int) (wrap64 (YU+1)) Za (wrap64 (Zc+((Yn l0 YU).f0)))) else (Y5.l1 qdM a1 a2 l0 (l0.length:Int) (wrap64 (YU+1)) Za Zc)) else (Y5.l1 qdM a1 a2 l0 (l0.length:Int) (wrap64 (YU+1)) Za Zc))=some (r1,r2,r3):=by rw [if_neg (show ¬ (false=true) by decide)] at H;exact H
             clear H;have H:=H1;clear H1
             by_cases c63:a1≤((Yn l0 YU).f1.f1)
             ·
              rw [if_pos c63] at H;have c63b0:decide (a1≤((Yn l0 YU).f1.f1))=true:=decide_eq_true c63;clear c63
              by_cases c64:((Yn l0 YU).f1.f0)≤a2
              ·
               rw [if_pos c64] at H;have c64b0:decide (((Yn l0 YU).f1.f0)≤a2)=true:=decide_eq_true c64;clear c64;have H':=Q1.mk H;clear H;have qyZ:=KV.out;have qzd:=JZ.out;have qIn:=KW.out;have qIZ:=G0.out;have qAQ:wc.cell? ⟨Gj,0,none⟩=some (.int .i64 ((Yn l0 YU).f0)):=(Q6 ZH.out 0).trans rfl;have qAR:wc.cell? ⟨Gj,1,none⟩=some (.int .i64 ((Yn l0 YU).f1.f0)):=(Q6 ZH.out 1).trans rfl;have qAS:wc.cell? ⟨Gj,2,none⟩=some (.int .i64 ((Yn l0 YU).f1.f1)):=(Q6 ZH.out 2).trans rfl;have qCF:=Q8 ZH.out 0;have qCG:=Q8 ZH.out 1;have qCH:=Q8 ZH.out 2;have qIo:=Xm.out;have qI0:=Kt.out;have qAT:wc.cell? ⟨Ol,0,none⟩=some (.int .i64 Za):=(Q6 G2.out 0).trans rfl;have qAU:wc.cell? ⟨Ol,1,none⟩=some (.int .i64 Zc):=(Q6 G2.out 1).trans rfl;have qCI:=Q8 G2.out 0;have qCJ:=Q8 G2.out 1
               go_wp2
               go_roundg qdM
               case measure=>have:=HK1.out;have:=X8.out;have:=HK3.out;have:=qdK.out;omega
               case rel=>exact ⟨(wrap64 (YU+1)),(Za),(wrap64 (Zc+((Yn l0 YU).f0))),(by first|rfl|(simp;done)|(simp [*];done)),H',⟨by have:=HK1.out;have:=X8.out;have:=HK3.out;have:=qdK.out;omega⟩,⟨by (with_reducible repeat (first|refine Q5 ?_ _|refine Q9 ?_|refine Q4 ?_ _));refine Qp ?_ Kt.out _;(with_reducible repeat (first|refine Q5 ?_ _|refine Q9 ?_|refine Q4 ?_ _));exact Zu.out⟩,⟨by (with_reducible repeat (first|refine Q5 ?_ _|refine Q9 ?_|refine Q4 ?_ _));refine QM (cs:=#[.int .i64 Za,.int .i64 Zc]) ?_ 1 _ rfl;(with_reducible repeat (first|refine Q5 ?_ _|refine Q9 ?_|refine Q4 ?_ _));exact G2.out⟩,⟨by repeat (first|(with_reducible first|exact HB.out|apply Q2|apply Q0|apply Q3|refine Q7 ?_ Ge.out|refine Q7 ?_ Xh.out|refine Q7 ?_ qdt.out)|exact HB.out)⟩⟩
              rw [if_neg c64] at H;have c64b0:decide (((Yn l0 YU).f1.f0)≤a2)=false:=decide_eq_false c64;clear c64;have H':=Q1.mk H;clear H;have qy0:=KV.out;have qze:=JZ.out;have qy1:=KW.out;have qzf:=G0.out;have qAV:wc.cell? ⟨Gj,0,none⟩=some (.int .i64 ((Yn l0 YU).f0)):=(Q6 ZH.out 0).trans rfl;have qAW:wc.cell? ⟨Gj,1,none⟩=some (.int .i64 ((Yn l0 YU).f1.f0)):=(Q6 ZH.out 1).trans rfl;have qAX:wc.cell? ⟨Gj,2,none⟩=some (.int .i64 ((Yn l0 YU).f1.f1)):=(Q6 ZH.out 2).trans rfl;have qCK:=Q8 ZH.out 0;have qCL:=Q8 ZH.out 1;have qCM:=Q8 ZH.out 2
              go_wp2
              go_roundg qdM
              case measure=>have:=HK1.out;have:=X8.out;have:=HK3.out;have:=qdK.out;omega
              case rel=>exact ⟨(wrap64 (YU+1)),(Za),(Zc),(by first|rfl|(simp;done)|(simp [*];done)),H',⟨by have:=HK1.out;have:=X8.out;have:=HK3.out;have:=qdK.out;omega⟩,⟨by (with_reducible repeat (first|refine Q5 ?_ _|refine Q9 ?_|refine Q4 ?_ _));exact Zu.out⟩,⟨by (with_reducible repeat (first|refine Q5 ?_ _|refine Q9 ?_|refine Q4 ?_ _));exact G2.out⟩,⟨by repeat (first|(with_reducible first|exact HB.out|apply Q2|apply Q0|apply Q3|refine Q7 ?_ Ge.out|refine Q7 ?_ Xh.out|refine Q7 ?_ qdt.out)|exact HB.out)⟩⟩
             rw [if_neg c63] at H;have c63b0:decide (a1≤((Yn l0 YU).f1.f1))=false:=decide_eq_false c63;clear c63;have H':=Q1.mk H;clear H;have qIr:=KV.out;have qI3:=JZ.out;have qIs:=KW.out;have qI4:=G0.out;have qri:wc.cell? ⟨Gj,0,none⟩=some (.int .i64 ((Yn l0 YU).f0)):=(Q6 ZH.out 0).trans rfl;have qrj:wc.cell? ⟨Gj,1,none⟩=some (.int .i64 ((Yn l0 YU).f1.f0)):=(Q6 ZH.out 1).trans rfl;have qrk:wc.cell? ⟨Gj,2,none⟩=some (.int .i64 ((Yn l0 YU).f1.f1)):=(Q6 ZH.out 2).trans rfl;have qrW:=Q8 ZH.out 0;have qrX:=Q8 ZH.out 1;have qrY:=Q8 ZH.out 2
             go_wp2
             go_roundg qdM
             case measure=>have:=HK1.out;have:=X8.out;have:=HK3.out;have:=qdK.out;omega
             case rel=>exact ⟨(wrap64 (YU+1)),(Za),(Zc),(by first|rfl|(simp;done)|(simp [*];done)),H',⟨by have:=HK1.out;have:=X8.out;have:=HK3.out;have:=qdK.out;omega⟩,⟨by (with_reducible repeat (first|refine Q5 ?_ _|refine Q9 ?_|refine Q4 ?_ _));exact Zu.out⟩,⟨by (with_reducible repeat (first|refine Q5 ?_ _|refine Q9 ?_|refine Q4 ?_ _));exact G2.out⟩,⟨by repeat (first|(with_reducible first|exact HB.out|apply Q2|apply Q0|apply Q3|refine Q7 ?_ Ge.out|refine Q7 ?_ Xh.out|refine Q7 ?_ qdt.out)|exact HB.out)⟩⟩
          rw [if_neg c32] at H
          exact absurd H (by simp)
         rw [if_neg c31] at H
         exact absurd H (by simp)
        rw [if_neg c30] at H;have c30b0:decide (YU<(l0.length:Int))=false:=decide_eq_false c30;clear c30;simp only [Option.some.injEq,Prod.mk.injEq] at H;obtain ⟨rfl,rfl,rfl⟩:=H;have qIt:=Xm.out;have qI5:=Kt.out;have qrl:wr.cell? ⟨Ol,0,none⟩=some (.int .i64 Za):=(Q6 G2.out 0).trans rfl;have qBc:wr.cell? ⟨Ol,1,none⟩=some (.int .i64 Zc):=(Q6 G2.out 1).trans rfl;have qrZ:=Q8 G2.out 0;have qC1:=Q8 G2.out 1;have qBd:wr.cell? ⟨Jz,0,none⟩=some (.int .i64 0):=(Q6 Zu.out 0).trans rfl;have qBe:wr.cell? ⟨Jz,1,none⟩=some (.int .i64 0):=(Q6 Zu.out 1).trans rfl;have qC2:=Q8 Zu.out 0;have qC3:=Q8 Zu.out 1
        go_wp2
        refine bodyPost_ret (qbG rfl _ _ Jz 25 #[.int .i64 Za,.int .i64 Zc] (0,0) _ rfl (by (with_reducible repeat (first|refine Q5 ?_ _|refine Q9 ?_|refine Q4 ?_ _));refine QM (cs:=#[.int .i64 Za,.int .i64 0]) ?_ 1 _ rfl;(with_reducible repeat (first|refine Q5 ?_ _|refine Q9 ?_|refine Q4 ?_ _));refine QM (cs:=#[.int .i64 0,.int .i64 0]) ?_ 0 _ rfl;(with_reducible repeat (first|refine Q5 ?_ _|refine Q9 ?_|refine Q4 ?_ _));exact Zu.out) Try.underlying25 rfl (by kernel_rfl)) rfl ?_
        exact ⟨by first|rfl|(simp [Qw,Qx]<;>rfl)|(simp [*,Qw,Qx]<;>rfl),by repeat (first|(with_reducible first|exact HB.out|apply Q2|apply Q0|apply Q3|refine Q7 ?_ Ge.out|refine Q7 ?_ Xh.out)|exact HB.out)⟩
   replace c22:=Bool.eq_false_iff.mpr c22
   subst c22
   have H1:(some (0,0,90))=some (r1,r2,r3):=by rw [if_neg (show ¬ (false=true) by decide)] at H;exact H
   clear H
   have H:=H1
   clear H1
   simp only [Option.some.injEq,Prod.mk.injEq] at H
   obtain ⟨rfl,rfl,rfl⟩:=H
   have qBf:wr.cell? ⟨Jz,0,none⟩=some (.int .i64 0):=(Q6 Zu.out 0).trans rfl
   have qBg:wr.cell? ⟨Jz,1,none⟩=some (.int .i64 0):=(Q6 Zu.out 1).trans rfl
   have qC4:=Q8 Zu.out 0
   have qC5:=Q8 Zu.out 1
   go_wp2
   refine bodyPost_ret (qbG rfl _ _ Jz 25 #[.int .i64 0,.int .i64 0] (0,0) _ rfl (by (with_reducible repeat (first|refine Q5 ?_ _|refine Q9 ?_|refine Q4 ?_ _));refine QM (cs:=#[.int .i64 0,.int .i64 0]) ?_ 1 _ rfl;(with_reducible repeat (first|refine Q5 ?_ _|refine Q9 ?_|refine Q4 ?_ _));refine QM (cs:=#[.int .i64 0,.int .i64 0]) ?_ 0 _ rfl;(with_reducible repeat (first|refine Q5 ?_ _|refine Q9 ?_|refine Q4 ?_ _));exact Zu.out) Try.underlying25 rfl (by kernel_rfl)) rfl ?_
   exact ⟨by first|rfl|(simp [Qw,Qx]<;>rfl)|(simp [*,Qw,Qx]<;>rfl),by repeat (first|(with_reducible first|exact HB.out|apply Q2|apply Q0|apply Q3|refine Q7 ?_ Ge.out)|exact HB.out)⟩
end
section
attribute [local go_sem] YC YE Z2 Z3 Yr Ys YD YF
theorem qoR (d:Nat) (w:World) (x0 y0:Int) (x1 y1:Int) :
  (Op.equalIn (d+2) 25 (.agg #[.int .i64 x0,.int .i64 x1]) (.agg #[.int .i64 y0,.int .i64 y1])).run Try.prog w = .ok (x0==y0&&(x1==y1)) w:=by
 refine qoS Try.underlying25 (by kernel_rfl) ?_
 refine qoT (by rfl) (by go_simp;rfl) (by go_simp;rfl) (by go_simp) ?_
 exact qib (by rfl) (by go_simp;rfl) (by go_simp;rfl) (by go_simp)
end
section
attribute [local go_sem] YC YE Z2 Z3 Yr Ys YD YF
attribute [local go_sem high] qoR
def Z6.l0:Nat→List (S25)→List (S25)→Int→Option (Bool)
 | 0,_,_,_=>none
 | k+1,x0,x1,x5=>if x5<(x0.length:Int) then (if 0≤x5 then (if x5<(x1.length:Int) then (if (!(((YZ x0 x5).f0)==((YZ x1 x5).f0))||(!(((YZ x0 x5).f1)==((YZ x1 x5).f1))))=true then (some false) else (Z6.l0 k x0 x1 (wrap64 (x5+1)))) else (none)) else (none)) else (some true)
def Z6.f (k:Nat) (l0:List (S25)) (l1:List (S25)):Option (Bool):=if (l0.length:Int)=(l1.length:Int) then (Z6.l0 k l0 l1 0) else (some false)
set_option maxHeartbeats 8000000 in
set_option maxRecDepth 100000 in
theorem Z6.calls (k:Nat) (A0:Option Addr) (c0:Nat) (l0:List (S25)) (A1:Option Addr) (c1:Nat) (l1:List (S25)) (r:Bool) (w:World) (hr0:Kd.C k25 w A0 l0.length l0) (hc0:l0.length≤c0) (hr1:Kd.C k25 w A1 l1.length l1) (hc1:l1.length≤c1) (h:Z6.f k l0 l1=some r) :
  Calls Try.prog 24 #[.slice A0 l0.length c0,.slice A1 l1.length c1] w fun e w'=>e = .returned (.bool r)∧Yz w w':=by
 have qdL:=Try.underlying25
 have HR0:=Q1.mk hr0
 have HC0:=Q1.mk hc0
 clear hr0 hc0
 have HR1:=Q1.mk hr1
 have HC1:=Q1.mk hc1
 clear hr1 hc1
 have H:(if (l0.length:Int)=(l1.length:Int) then (Z6.l0 k l0 l1 0) else (some false))=some r:=h
 clear h
 by_cases c3:(l0.length:Int)=(l1.length:Int)
 ·
  rw [if_pos c3] at H
  have c3b0:((l0.length:Int)==(l1.length:Int))=true:=beq_iff_eq.mpr c3
  have c3b1:((l0.length:Int) != (l1.length:Int))=false:=bne_eq_false_iff_eq.mpr c3
  have c3b2:(l0.length==l1.length)=true:=by first|simpa using c3|(simp at c3 ⊢;omega)
  clear c3
  have H':=Q1.mk H
  clear H
  go_enter Try.func24,Try.ntmps24
  go_wp2
  repeat (go_quiet (fail);try go_wp2)
  go_loopg [5] k (fun kq v5 w' => ∃ (ZT:Int),v5 = .int .i64 ZT∧Q1 (Z6.l0 kq l0 l1 ZT=some r)∧Q1 (kq≤k)∧Yz w w')
  case atStart=>exact ⟨(0),(by first|rfl|(simp;done)|(simp [*];done)),H',⟨Nat.le_refl _⟩,by repeat (first|exact Yz.refl _|apply Yz.step)⟩
  case round =>
   clear H'
   try clear c1
   try clear c2
   try clear p2
   try clear c3
   try clear c3b0
   try clear c3b1
   try clear c3b2
   obtain ⟨ZT,rfl,HA,HK1,⟨m1,rfl⟩⟩:=hrel
   cases gk with
   | zero=>exact absurd HA.out (by simp [Z6.l0])
   | succ k1 =>
    have H:=HA.out;clear HA;simp only [Z6.l0] at H
    by_cases c4:ZT<(l0.length:Int)
    ·
     rw [if_pos c4] at H;have c4b0:decide (ZT<(l0.length:Int))=true:=decide_eq_true c4;clear c4
     by_cases c5:0≤ZT
     ·
      rw [if_pos c5] at H;have c5b0:decide (0≤ZT)=true:=decide_eq_true c5;clear c5
      by_cases c6:ZT<(l1.length:Int)
      ·
       rw [if_pos c6] at H;have c6b0:decide (ZT<(l1.length:Int))=true:=decide_eq_true c6;clear c6
       by_cases c7:(!(((YZ l0 ZT).f0)==((YZ l1 ZT).f0))||(!(((YZ l0 ZT).f1)==((YZ l1 ZT).f1))))=true
       ·
        rw [if_pos c7] at H;have c7b0:(!(((YZ l0 ZT).f0)==((YZ l1 ZT).f0))||(!(((YZ l0 ZT).f1)==((YZ l1 ZT).f1))))=true:=c7;clear c7;obtain rfl:=Option.some.inj H;have qkf:0≤(ZT:Int):=of_decide_eq_true (by first|(with_reducible assumption)|assumption);have qkx:ZT<(l0.length:Int):=of_decide_eq_true (by first|(with_reducible assumption)|assumption);obtain ⟨qw3,quK,qr1,qr2⟩:=Xy HR0.out ZT qkf qkx;cases quK;replace qkf:=eq_true qkf;replace qkx:=eq_true qkx;have qkg:0≤(ZT:Int):=of_decide_eq_true (by first|(with_reducible assumption)|assumption);have qky:ZT<(l1.length:Int):=of_decide_eq_true (by first|(with_reducible assumption)|assumption);obtain ⟨qw4,e143,qr3,qr4⟩:=Xy HR1.out ZT qkg qky;cases e143;replace qkg:=eq_true qkg;replace qky:=eq_true qky
        go_wp2
        repeat (go_quiet (fail);try go_wp2)
        go_ret
        exact ⟨by first|rfl|(simp;done)|(simp [*];done),by repeat (first|exact Yz.refl _|apply Yz.step)⟩
       rw [if_neg c7] at H
       have c7b0:(!(((YZ l0 ZT).f0)==((YZ l1 ZT).f0))||(!(((YZ l0 ZT).f1)==((YZ l1 ZT).f1))))=false:=by simpa using c7
       clear c7;have H':=Q1.mk H;clear H;have qkf:0≤(ZT:Int):=of_decide_eq_true (by first|(with_reducible assumption)|assumption);have qkx:ZT<(l0.length:Int):=of_decide_eq_true (by first|(with_reducible assumption)|assumption);obtain ⟨qw3,quK,qr1,qr2⟩:=Xy HR0.out ZT qkf qkx;cases quK;replace qkf:=eq_true qkf;replace qkx:=eq_true qkx;have qkg:0≤(ZT:Int):=of_decide_eq_true (by first|(with_reducible assumption)|assumption);have qky:ZT<(l1.length:Int):=of_decide_eq_true (by first|(with_reducible assumption)|assumption);obtain ⟨qw4,e143,qr3,qr4⟩:=Xy HR1.out ZT qkg qky;cases e143;replace qkg:=eq_true qkg;replace qky:=eq_true qky
       go_wp2
       repeat (go_quiet (fail);try go_wp2)
       go_roundg k1
       case measure=>have:=HK1.out;omega
       case rel=>exact ⟨(wrap64 (ZT+1)),(by first|rfl|(simp;done)|(simp [*];done)),H',⟨by have:=HK1.out;omega⟩,by repeat (first|exact Yz.refl _|apply Yz.step)⟩
      rw [if_neg c6] at H
      exact absurd H (by simp)
     rw [if_neg c5] at H
     exact absurd H (by simp)
    rw [if_neg c4] at H;have c4b0:decide (ZT<(l0.length:Int))=false:=decide_eq_false c4;clear c4;obtain rfl:=Option.some.inj H
    go_wp2
    repeat (go_quiet (fail);try go_wp2)
    go_ret
    exact ⟨by first|rfl|(simp;done)|(simp [*];done),by repeat (first|exact Yz.refl _|apply Yz.step)⟩
 rw [if_neg c3] at H
 have c3b0:((l0.length:Int)==(l1.length:Int))=false:=beq_eq_false_iff_ne.mpr c3
 have c3b1:((l0.length:Int) != (l1.length:Int))=true:=bne_iff_ne.mpr c3
 have c3b2:(l0.length==l1.length)=false:=by first|simpa using c3|(simp at c3 ⊢;omega)
 obtain rfl:=Option.some.inj H
 go_enter Try.func24,Try.ntmps24
 go_wp2
 repeat (go_quiet (fail);try go_wp2)
 go_ret
 exact ⟨by first|rfl|(simp;done)|(simp [*];done),by repeat (first|exact Yz.refl _|apply Yz.step)⟩
end
section
attribute [local go_sem] YC YE Z2 Z3 Yr Ys YD YF
mutual
def QT.j0:Nat→List Int→List Int→Bool→List Int→List Int→List Int→Int→Int→Option (List Int × Int)
 | 0,_,_,_,_,_,_,_,_=>none
 | k+1,x1,x2,x9,OJ,OK,OL,OM,ON=>QT.l0 k x1 x2 x9 0 OJ OK OL OM ON
def QT.l0:Nat→List Int→List Int→Bool→Int→List Int→List Int→List Int→Int→Int→Option (List Int × Int)
 | 0,_,_,_,_,_,_,_,_,_=>none
 | k+1,x1,x2,x9,x10,OJ,OK,OL,OM,ON=>if x9=true then (QT.j2 k x1 x2 x9 x10 (decide (x10<(x1.length:Int))) OJ OK OL OM ON) else (QT.j2 k x1 x2 x9 x10 false OJ OK OL OM ON)
def QT.j2:Nat→List Int→List Int→Bool→Int→Bool→List Int→List Int→List Int→Int→Int→Option (List Int × Int)
 | 0,_,_,_,_,_,_,_,_,_,_=>none
 | k+1,x1,x2,x9,x10,x39,OJ,OK,OL,OM,ON=>if x39=true then (if 0≤x10 then (if x10<(x1.length:Int) then ((Qn.f (rd x1 x10) 0 100000000).bind fun t159=>(if t159=true then (if x10<(x2.length:Int) then ((Qn.f (rd x2 x10) 0 100000).bind fun qe9=>(QT.l0 k x1 x2 qe9 (wrap64 (x10+1)) OJ OK OL OM ON)) else (none)) else (QT.l0 k x1 x2 false (wrap64 (x10+1)) OJ OK OL OM ON))) else (none)) else (none)) else (if x9=true then ((Zb.f OJ OK OL OM ON).bind fun OV=>(QT.l1 k x1 x2 ([]:List Int) (x1.length:Int) 0 OJ OK OL OM ON OV.1 OV.2.1 OV.2.2.1 OV.2.2.2.1 OV.2.2.2.2.1 OV.2.2.2.2.2)) else (some (([]:List Int),92)))
def QT.l1:Nat→List Int→List Int→List Int→Int→Int→List Int→List Int→List Int→Int→Int→Int→Int→Int→Int→Int→Int→Option (List Int × Int)
 | 0,_,_,_,_,_,_,_,_,_,_,_,_,_,_,_,_=>none
 | k+1,x1,x2,x13,x59,x60,OJ,OK,OL,OM,ON,qsI,qsJ,qsK,qsL,qsM,qsN=>if x60<x59 then (if 0≤x60 then (if x60<(x1.length:Int) then (if x60<(x2.length:Int) then ((Z8.f OJ OK OL OM ON qsI qsJ qsK qsL qsM qsN (rd x1 x60) (rd x2 x60)).bind fun qeO=>(if x13.length<17592186044416 then (QT.l1 k x1 x2 (x13++[qeO.1]) x59 (wrap64 (x60+1)) OJ OK OL OM ON qeO.2.1 qeO.2.2.1 qeO.2.2.2.1 qeO.2.2.2.2.1 qeO.2.2.2.2.2.1 qeO.2.2.2.2.2.2) else (none))) else (none)) else (none)) else (none)) else (if 0≤(x13.length:Int) then (if (x13.length:Int)≤(x13.length:Int) then (some ((x13.take ((x13.length:Int):Int).toNat),0)) else (none)) else (none))
end
def QT.f (k:Nat) (Qa:List Int) (Qe:List Int) (Qc:List Int) (QH:Int) (QG:Int) (l1:List Int) (l2:List Int):Option (List Int × Int):=(Qh.f k Qa Qe Qc QH QG).bind fun t156=>(if t156=true then ((Qn.f (l1.length:Int) 1 10).bind fun t157=>(if t157=true then (QT.j0 k l1 l2 ((l2.length:Int)==(l1.length:Int)) Qa Qe Qc QH QG) else (QT.j0 k l1 l2 false Qa Qe Qc QH QG))) else (QT.j0 k l1 l2 false Qa Qe Qc QH QG))
def QT.T15:Bool × List (List Nat × List Nat):=(true,[([],[]),([],[]),([],[]),([],[]),([],[]),([3,4],[3,4]),([5],[5]),([],[]),([],[]),([7,8],[7,8]),([9],[9]),([0,1,2,6,10],[0,1,2,6,10]),([11],[11]),([12],[12]),([12],[12]),([],[]),([13,11,0,1,2,3,4,5,6,7,8,9,10,11,12,13,15],[13]),([15,14,16,0,1,2,3,4,5,6,7,8,9,10,11,12,13,14,15,16],[14,15])])
def QT.B15:List Nat:=[0,0,0,0,0,24,56,0,0,384,896,2047,4095,8191,8191,0,49151,131071]
theorem QT.tab15:rtab .any (qaz Try.f25 15)=QT.T15:=by kernel_rfl
theorem QT.bits15:Kr QT.T15.2 QT.B15=true:=by kernel_rfl
set_option maxHeartbeats 8000000 in
set_option maxRecDepth 100000 in
theorem QT.calls (k:Nat) (Qy:Option Addr) (Qr:Nat) (Qa:List Int) (Qv:Option Addr) (Qs:Nat) (Qe:List Int) (Qz:Option Addr) (Qt:Nat) (Qc:List Int) (QH:Int) (QG:Int) (A1:Option Addr) (c1:Nat) (l1:List Int) (A2:Option Addr) (c2:Nat) (l2:List Int) (r1:List Int) (r2:Int) (w:World) (ZR:Kd.C (Kd.int .i64) w Qy Qa.length Qa) (ZW:Qa.length≤Qr) (ZL:Kd.C (Kd.int .i64) w Qv Qe.length Qe) (ZO:Qe.length≤Qs) (ZM:Kd.C (Kd.int .i64) w Qz Qc.length Qc) (ZP:Qc.length≤Qt) (hr1:Kd.C (Kd.int .i64) w A1 l1.length l1) (hc1:l1.length≤c1) (hr2:Kd.C (Kd.int .i64) w A2 l2.length l2) (hc2:l2.length≤c2) (h:QT.f k Qa Qe Qc QH QG l1 l2=some (r1,r2)) :
  Calls Try.prog 25 #[.agg #[.slice Qy Qa.length Qr,.slice Qv Qe.length Qs,.slice Qz Qc.length Qt,.int .i64 QH,.int .i64 QG],.slice A1 l1.length c1,.slice A2 l2.length c2] w fun e w' => ∃ v0_:Value,e = .returned (.tuple #[v0_,.int .i64 r2])∧Kd.V (Kd.int .i64) 3 w' w.heap.size (fun k_=>(w.heap.size≤k_)) v0_ r1∧Below w.heap.size w w':=by
 have qeZ:=Try.underlying39
 have qpg:=Try.underlying111
 have qzk:=Try.underlying115
 have Z1:=Q1.mk ZR
 have Zh:=Q1.mk ZW
 clear ZR ZW
 have Z0:=Q1.mk ZL
 have Z9:=Q1.mk ZO
 clear ZL ZO
 have YV:=Q1.mk ZM
 have Zd:=Q1.mk ZP
 clear ZM ZP
 have HR1:=Q1.mk hr1
 have HC1:=Q1.mk hc1
 clear hr1 hc1
 have HR2:=Q1.mk hr2
 have HC2:=Q1.mk hc2
 clear hr2 hc2
 have HB:=Q1.mk (Below.refl w.heap.size w)
 have H:((Qh.f k Qa Qe Qc QH QG).bind fun t156=>(if t156=true then ((Qn.f (l1.length:Int) 1 10).bind fun t157=>(if t157=true then (QT.j0 k l1 l2 ((l2.length:Int)==(l1.length:Int)) Qa Qe Qc QH QG) else (QT.j0 k l1 l2 false Qa Qe Qc QH QG))) else (QT.j0 k l1 l2 false Qa Qe Qc QH QG)))=some (r1,r2):=h
 clear h
 have HC4:=Q1.mk H
 clear H
 go_enter Try.func25,Try.ntmps25
 go_upto_region 2 with (first|((with_reducible refine QR (N:=3) rfl ?_);(try (refine Gr (by rfl) ?_;dsimp only));refine Yf ?hg (N:=3) ?hd (cs:=#[.slice Qy Qa.length Qr,.slice Qv Qe.length Qs,.slice Qz Qc.length Qt,.int .i64 QH,.int .i64 QG]) (t:=39) ?hr ?_;(case hd=>rfl);(case hg=>rfl);(case hr=>first|(go_simp;done)|(go_simp;rfl));intro Jk hg w5 hbox hb;have n0_:=Q1.mk (Qi (by repeat (first|(with_reducible first|exact HB.out|apply Q2|apply Q0|apply Q3)|exact HB.out)) hb);have n1_:=Q1.mk (hbox);have n2_:=Q1.mk ((by rw [hg];exact (Qf (by repeat (first|(with_reducible first|exact HB.out|apply Q2|apply Q0|apply Q3)|exact HB.out))):w.heap.size≤Jk));have n3_:=n2_;clear HB;have HB:=n0_;have Z5:=n1_;have qG8:=n2_;have Jh:=n3_;clear n0_ n1_ n2_ n3_ hb hbox hg;have Ww:w5.cell? ⟨Jk,0,none⟩=some (.slice Qy Qa.length Qr):=(Q6 Z5.out 0).trans rfl;have Wx:w5.cell? ⟨Jk,1,none⟩=some (.slice Qv Qe.length Qs):=(Q6 Z5.out 1).trans rfl;have X9:w5.cell? ⟨Jk,2,none⟩=some (.slice Qz Qc.length Qt):=(Q6 Z5.out 2).trans rfl;have qgs:w5.cell? ⟨Jk,3,none⟩=some (.int .i64 QH):=(Q6 Z5.out 3).trans rfl;have qgt:w5.cell? ⟨Jk,4,none⟩=some (.int .i64 QG):=(Q6 Z5.out 4).trans rfl;have Wy:=Q8 Z5.out 0;have Wz:=Q8 Z5.out 1;have Xa:=Q8 Z5.out 2;have qgH:=Q8 Z5.out 3;have qgI:=Q8 Z5.out 4)|((with_reducible refine QR (N:=8) rfl ?_);(try (refine Gr (by rfl) ?_;dsimp only));refine Yf ?hg (N:=8) ?hd (cs:=#[.slice none 0 0,.slice none 0 0,.slice none 0 0,.int .i64 0,.int .i64 0]) (t:=111) ?hr ?_;(case hd=>rfl);(case hg=>rfl);(case hr=>first|(go_simp;done)|(go_simp;rfl));intro Z7 hg w7 hbox hb;have n0_:=Q1.mk (Qg (g:=Jk) (by (with_reducible repeat (first|refine Q5 ?_ _|refine Q9 ?_|refine Q4 ?_ _));exact Z5.out) hb);have n1_:=Q1.mk (Qi (by repeat (first|(with_reducible first|exact HB.out|apply Q2|apply Q0|apply Q3|refine Q7 ?_ Jh.out)|exact HB.out)) hb);have n2_:=Q1.mk (hbox);have n3_:=Q1.mk ((by rw [hg];exact (Qf (by repeat (first|(with_reducible first|exact HB.out|apply Q2|apply Q0|apply Q3|refine Q7 ?_ Jh.out)|exact HB.out))):w.heap.size≤Z7));have n4_:=n3_;have n5_:=Q1.mk ((by rw [hg];exact Nat.ne_of_lt (Y0 (g:=Jk) (by (with_reducible repeat (first|refine Q5 ?_ _|refine Q9 ?_|refine Q4 ?_ _));exact Z5.out)):Jk≠Z7));have n6_:=Q1.mk (n5_.out.symm);clear Z5 HB;have Z5:=n0_;have HB:=n1_;have Yg:=n2_;have qG9:=n3_;have Jv:=n4_;have J3:=n5_;have Xn:=n6_;clear n0_ n1_ n2_ n3_ n4_ n5_ n6_ hb hbox hg;have qJU:=Xn.out;have qJV:=J3.out;have GH:w7.cell? ⟨Z7,0,none⟩=some (.slice none 0 0):=(Q6 Yg.out 0).trans rfl;have GI:w7.cell? ⟨Z7,1,none⟩=some (.slice none 0 0):=(Q6 Yg.out 1).trans rfl;have GJ:w7.cell? ⟨Z7,2,none⟩=some (.slice none 0 0):=(Q6 Yg.out 2).trans rfl;have qgw:w7.cell? ⟨Z7,3,none⟩=some (.int .i64 0):=(Q6 Yg.out 3).trans rfl;have qgx:w7.cell? ⟨Z7,4,none⟩=some (.int .i64 0):=(Q6 Yg.out 4).trans rfl;have GK:=Q8 Yg.out 0;have GL:=Q8 Yg.out 1;have GM:=Q8 Yg.out 2;have qgL:=Q8 Yg.out 3;have qgM:=Q8 Yg.out 4))
 (try simp only [Act.put,List.setIfInBounds_toArray,List.set_cons_zero,List.set_cons_succ])
 go_cut [9] (fun v9 wc => ∃ (kq:Nat) (qs1:Bool),v9 = .bool qs1∧Q1 (QT.j0 kq l1 l2 qs1 Qa Qe Qc QH QG=some (r1,r2))∧Q1 (kq≤k)∧Q1 (wc.heap[Jk]? = some (.cells #[(.slice Qy Qa.length Qr),(.slice Qv Qe.length Qs),(.slice Qz Qc.length Qt),.int .i64 QH,.int .i64 QG] 39 (0,0)))∧Q1 (wc.heap[Z7]? = some (.cells #[(.slice Qy Qa.length Qr),(.slice Qv Qe.length Qs),(.slice Qz Qc.length Qt),.int .i64 QH,.int .i64 QG] 111 (0,0)))∧Q1 (Below w.heap.size w wc))
 case first =>
  have H:=HC4.out
  clear HC4
  replace H:=Option.bind_eq_some_iff.mp H
  obtain ⟨t156,qhN,H⟩:=H
  replace H:(if t156=true then ((Qn.f (l1.length:Int) 1 10).bind fun t157=>(if t157=true then (QT.j0 k l1 l2 ((l2.length:Int)==(l1.length:Int)) Qa Qe Qc QH QG) else (QT.j0 k l1 l2 false Qa Qe Qc QH QG))) else (QT.j0 k l1 l2 false Qa Qe Qc QH QG))=some (r1,r2):=H
  have A10:=Q1.mk qhN
  clear qhN
  by_cases c11:t156=true
  ·
   subst c11
   have H1:((Qn.f (l1.length:Int) 1 10).bind fun t157=>(if t157=true then (QT.j0 k l1 l2 ((l2.length:Int)==(l1.length:Int)) Qa Qe Qc QH QG) else (QT.j0 k l1 l2 false Qa Qe Qc QH QG)))=some (r1,r2):=by rw [if_pos rfl] at H;exact H
   clear H
   have H:=H1
   clear H1
   replace H:=Option.bind_eq_some_iff.mp H
   obtain ⟨t157,qbN,H⟩:=H
   replace H:(if t157=true then (QT.j0 k l1 l2 ((l2.length:Int)==(l1.length:Int)) Qa Qe Qc QH QG) else (QT.j0 k l1 l2 false Qa Qe Qc QH QG))=some (r1,r2):=H
   have A12:=Q1.mk qbN
   clear qbN
   by_cases c13:t157=true
   ·
    subst c13
    have H1:(QT.j0 k l1 l2 ((l2.length:Int)==(l1.length:Int)) Qa Qe Qc QH QG)=some (r1,r2):=by rw [if_pos rfl] at H;exact H
    clear H;have H:=H1;clear H1;have H':=Q1.mk H;clear H;have qH4:=Xn.out;have qIG:=J3.out;have Jq:w7.cell? ⟨Z7,0,none⟩=some (.slice none 0 0):=(Q6 Yg.out 0).trans rfl;have Jr:w7.cell? ⟨Z7,1,none⟩=some (.slice none 0 0):=(Q6 Yg.out 1).trans rfl;have JF:w7.cell? ⟨Z7,2,none⟩=some (.slice none 0 0):=(Q6 Yg.out 2).trans rfl;have O1:w7.cell? ⟨Z7,3,none⟩=some (.int .i64 0):=(Q6 Yg.out 3).trans rfl;have O2:w7.cell? ⟨Z7,4,none⟩=some (.int .i64 0):=(Q6 Yg.out 4).trans rfl;have Js:=Q8 Yg.out 0;have Jt:=Q8 Yg.out 1;have JG:=Q8 Yg.out 2;have O7:=Q8 Yg.out 3;have O8:=Q8 Yg.out 4
    go_wp2_with (first|((with_reducible refine Qu (f:=76) rfl ?_);refine Yk (some 20) rfl rfl Try.func76 (by kernel_rfl) rfl #[.agg #[.slice Qy Qa.length Qr,.slice Qv Qe.length Qs,.slice Qz Qc.length Qt,.int .i64 QH,.int .i64 QG]] rfl (by (try simp only [List.map_toArray,List.map_cons,List.map_nil]);first|done|rfl|(simp only [List.length_drop,List.length_take];rfl)) ?_;(with_reducible refine (Qh.calls k _ _ Qa _ _ Qe _ _ Qc QH QG true _ ?side1 ?side2 ?side3 ?side4 ?side5 ?side6 A10.out).mono ?_);(case side1=>exact Kd.C_below Z1.out (by repeat (first|(with_reducible first|exact HB.out|apply Q2|apply Q0|apply Q3|refine Q7 ?_ Jh.out|refine Q7 ?_ Jv.out)|exact HB.out)));(case side2=>exact Zh.out);(case side3=>exact Kd.C_below Z0.out (by repeat (first|(with_reducible first|exact HB.out|apply Q2|apply Q0|apply Q3|refine Q7 ?_ Jh.out|refine Q7 ?_ Jv.out)|exact HB.out)));(case side4=>exact Z9.out);(case side5=>exact Kd.C_below YV.out (by repeat (first|(with_reducible first|exact HB.out|apply Q2|apply Q0|apply Q3|refine Q7 ?_ Jh.out|refine Q7 ?_ Jv.out)|exact HB.out)));(case side6=>exact Zd.out);rintro e w16 ⟨rfl,hb⟩;refine ⟨_,rfl,?_⟩;have n0_:=Q1.mk (Qg (g:=Jk) (o:=.cells #[.slice Qy Qa.length Qr,.slice Qv Qe.length Qs,.slice Qz Qc.length Qt,.int .i64 QH,.int .i64 QG] 39 (0,0)) (by (with_reducible repeat (first|refine Q5 ?_ _|refine Q9 ?_|refine Q4 ?_ _));refine Qp ?_ J3.out _;(with_reducible repeat (first|refine Q5 ?_ _|refine Q9 ?_|refine Q4 ?_ _));refine Qp ?_ J3.out _;(with_reducible repeat (first|refine Q5 ?_ _|refine Q9 ?_|refine Q4 ?_ _));refine Qp ?_ J3.out _;(with_reducible repeat (first|refine Q5 ?_ _|refine Q9 ?_|refine Q4 ?_ _));refine Qp ?_ J3.out _;(with_reducible repeat (first|refine Q5 ?_ _|refine Q9 ?_|refine Q4 ?_ _));refine Qp ?_ J3.out _;(with_reducible repeat (first|refine Q5 ?_ _|refine Q9 ?_|refine Q4 ?_ _));exact Z5.out) hb);have n1_:=Q1.mk (Qg (g:=Z7) (o:=.cells #[.slice Qy Qa.length Qr,.slice Qv Qe.length Qs,.slice Qz Qc.length Qt,.int .i64 QH,.int .i64 QG] 111 (0,0)) (by (with_reducible repeat (first|refine Q5 ?_ _|refine Q9 ?_|refine Q4 ?_ _));refine QM (cs:=#[.slice Qy Qa.length Qr,.slice Qv Qe.length Qs,.slice Qz Qc.length Qt,.int .i64 QH,.int .i64 0]) ?_ 4 _ rfl;(with_reducible repeat (first|refine Q5 ?_ _|refine Q9 ?_|refine Q4 ?_ _));refine QM (cs:=#[.slice Qy Qa.length Qr,.slice Qv Qe.length Qs,.slice Qz Qc.length Qt,.int .i64 0,.int .i64 0]) ?_ 3 _ rfl;(with_reducible repeat (first|refine Q5 ?_ _|refine Q9 ?_|refine Q4 ?_ _));refine QM (cs:=#[.slice Qy Qa.length Qr,.slice Qv Qe.length Qs,.slice none 0 0,.int .i64 0,.int .i64 0]) ?_ 2 _ rfl;(with_reducible repeat (first|refine Q5 ?_ _|refine Q9 ?_|refine Q4 ?_ _));refine QM (cs:=#[.slice Qy Qa.length Qr,.slice none 0 0,.slice none 0 0,.int .i64 0,.int .i64 0]) ?_ 1 _ rfl;(with_reducible repeat (first|refine Q5 ?_ _|refine Q9 ?_|refine Q4 ?_ _));refine QM (cs:=#[.slice none 0 0,.slice none 0 0,.slice none 0 0,.int .i64 0,.int .i64 0]) ?_ 0 _ rfl;(with_reducible repeat (first|refine Q5 ?_ _|refine Q9 ?_|refine Q4 ?_ _));exact Yg.out) hb);have n2_:=Q1.mk (Qi (by repeat (first|(with_reducible first|exact HB.out|apply Q2|apply Q0|apply Q3|refine Q7 ?_ Jh.out|refine Q7 ?_ Jv.out)|exact HB.out)) hb);clear Z5 Yg HB;have Z5:=n0_;have Yg:=n1_;have HB:=n2_;clear n0_ n1_ n2_;(try clear hb);(try clear hb2);(try clear hk);(try clear hi))|(go_at_call 65;(with_reducible refine (Qn.calls (l1.length:Int) 1 10 true _ A12.out).mono ?_);rintro e w' ⟨rfl,⟨nd,rfl⟩⟩))
    go_meet
    case rel=>exact ⟨_,(((l2.length:Int)==(l1.length:Int))),(by first|rfl|(simp;done)|(simp [*];done)),H',⟨by first|omega|exact Nat.le_refl _⟩,⟨by (with_reducible repeat (first|refine Q5 ?_ _|refine Q9 ?_|refine Q4 ?_ _));exact Z5.out⟩,⟨by (with_reducible repeat (first|refine Q5 ?_ _|refine Q9 ?_|refine Q4 ?_ _));exact Yg.out⟩,⟨by repeat (first|(with_reducible first|exact HB.out|apply Q2|apply Q0|apply Q3|refine Q7 ?_ Jh.out|refine Q7 ?_ Jv.out)|exact HB.out)⟩⟩
   replace c13:=Bool.eq_false_iff.mpr c13
   subst c13
   have H1:(QT.j0 k l1 l2 false Qa Qe Qc QH QG)=some (r1,r2):=by rw [if_neg (show ¬ (false=true) by decide)] at H;exact H
   clear H
   have H:=H1
   clear H1
   have H':=Q1.mk H
   clear H
   have qyP:=Xn.out
   have qy3:=J3.out
   have UW:w7.cell? ⟨Z7,0,none⟩=some (.slice none 0 0):=(Q6 Yg.out 0).trans rfl
   have UX:w7.cell? ⟨Z7,1,none⟩=some (.slice none 0 0):=(Q6 Yg.out 1).trans rfl
   have UY:w7.cell? ⟨Z7,2,none⟩=some (.slice none 0 0):=(Q6 Yg.out 2).trans rfl
   have qb2:w7.cell? ⟨Z7,3,none⟩=some (.int .i64 0):=(Q6 Yg.out 3).trans rfl
   have qb3:w7.cell? ⟨Z7,4,none⟩=some (.int .i64 0):=(Q6 Yg.out 4).trans rfl
   have UZ:=Q8 Yg.out 0
   have W4:=Q8 Yg.out 1
   have W5:=Q8 Yg.out 2
   have qb9:=Q8 Yg.out 3
   have qca:=Q8 Yg.out 4
   go_wp2_with (first|((with_reducible refine Qu (f:=76) rfl ?_);refine Yk (some 20) rfl rfl Try.func76 (by kernel_rfl) rfl #[.agg #[.slice Qy Qa.length Qr,.slice Qv Qe.length Qs,.slice Qz Qc.length Qt,.int .i64 QH,.int .i64 QG]] rfl (by (try simp only [List.map_toArray,List.map_cons,List.map_nil]);first|done|rfl|(simp only [List.length_drop,List.length_take];rfl)) ?_;(with_reducible refine (Qh.calls k _ _ Qa _ _ Qe _ _ Qc QH QG true _ ?side1 ?side2 ?side3 ?side4 ?side5 ?side6 A10.out).mono ?_);(case side1=>exact Kd.C_below Z1.out (by repeat (first|(with_reducible first|exact HB.out|apply Q2|apply Q0|apply Q3|refine Q7 ?_ Jh.out|refine Q7 ?_ Jv.out)|exact HB.out)));(case side2=>exact Zh.out);(case side3=>exact Kd.C_below Z0.out (by repeat (first|(with_reducible first|exact HB.out|apply Q2|apply Q0|apply Q3|refine Q7 ?_ Jh.out|refine Q7 ?_ Jv.out)|exact HB.out)));(case side4=>exact Z9.out);(case side5=>exact Kd.C_below YV.out (by repeat (first|(with_reducible first|exact HB.out|apply Q2|apply Q0|apply Q3|refine Q7 ?_ Jh.out|refine Q7 ?_ Jv.out)|exact HB.out)));(case side6=>exact Zd.out);rintro e w19 ⟨rfl,hb⟩;refine ⟨_,rfl,?_⟩;have n0_:=Q1.mk (Qg (g:=Jk) (o:=.cells #[.slice Qy Qa.length Qr,.slice Qv Qe.length Qs,.slice Qz Qc.length Qt,.int .i64 QH,.int .i64 QG] 39 (0,0)) (by (with_reducible repeat (first|refine Q5 ?_ _|refine Q9 ?_|refine Q4 ?_ _));refine Qp ?_ J3.out _;(with_reducible repeat (first|refine Q5 ?_ _|refine Q9 ?_|refine Q4 ?_ _));refine Qp ?_ J3.out _;(with_reducible repeat (first|refine Q5 ?_ _|refine Q9 ?_|refine Q4 ?_ _));refine Qp ?_ J3.out _;(with_reducible repeat (first|refine Q5 ?_ _|refine Q9 ?_|refine Q4 ?_ _));refine Qp ?_ J3.out _;(with_reducible repeat (first|refine Q5 ?_ _|refine Q9 ?_|refine Q4 ?_ _));refine Qp ?_ J3.out _;(with_reducible repeat (first|refine Q5 ?_ _|refine Q9 ?_|refine Q4 ?_ _));exact Z5.out) hb);have n1_:=Q1.mk (Qg (g:=Z7) (o:=.cells #[.slice Qy Qa.length Qr,.slice Qv Qe.length Qs,.slice Qz Qc.length Qt,.int .i64 QH,.int .i64 QG] 111 (0,0)) (by (with_reducible repeat (first|refine Q5 ?_ _|refine Q9 ?_|refine Q4 ?_ _));refine QM (cs:=#[.slice Qy Qa.length Qr,.slice Qv Qe.length Qs,.slice Qz Qc.length Qt,.int .i64 QH,.int .i64 0]) ?_ 4 _ rfl;(with_reducible repeat (first|refine Q5 ?_ _|refine Q9 ?_|refine Q4 ?_ _));refine QM (cs:=#[.slice Qy Qa.length Qr,.slice Qv Qe.length Qs,.slice Qz Qc.length Qt,.int .i64 0,.int .i64 0]) ?_ 3 _ rfl;(with_reducible repeat (first|refine Q5 ?_ _|refine Q9 ?_|refine Q4 ?_ _));refine QM (cs:=#[.slice Qy Qa.length Qr,.slice Qv Qe.length Qs,.slice none 0 0,.int .i64 0,.int .i64 0]) ?_ 2 _ rfl;(with_reducible repeat (first|refine Q5 ?_ _|refine Q9 ?_|refine Q4 ?_ _));refine QM (cs:=#[.slice Qy Qa.length Qr,.slice none 0 0,.slice none 0 0,.int .i64 0,.int .i64 0]) ?_ 1 _ rfl;(with_reducible repeat (first|refine Q5 ?_ _|refine Q9 ?_|refine Q4 ?_ _));refine QM (cs:=#[.slice none 0 0,.slice none 0 0,.slice none 0 0,.int .i64 0,.int .i64 0]) ?_ 0 _ rfl;(with_reducible repeat (first|refine Q5 ?_ _|refine Q9 ?_|refine Q4 ?_ _));exact Yg.out) hb);have n2_:=Q1.mk (Qi (by repeat (first|(with_reducible first|exact HB.out|apply Q2|apply Q0|apply Q3|refine Q7 ?_ Jh.out|refine Q7 ?_ Jv.out)|exact HB.out)) hb);clear Z5 Yg HB;have Z5:=n0_;have Yg:=n1_;have HB:=n2_;clear n0_ n1_ n2_;(try clear hb);(try clear hb2);(try clear hk);(try clear hi))|(go_at_call 65;(with_reducible refine (Qn.calls (l1.length:Int) 1 10 false _ A12.out).mono ?_);rintro e w' ⟨rfl,⟨nd,rfl⟩⟩))
   go_meet
   case rel=>exact ⟨_,(false),(by first|rfl|(simp;done)|(simp [*];done)),H',⟨by first|omega|exact Nat.le_refl _⟩,⟨by (with_reducible repeat (first|refine Q5 ?_ _|refine Q9 ?_|refine Q4 ?_ _));exact Z5.out⟩,⟨by (with_reducible repeat (first|refine Q5 ?_ _|refine Q9 ?_|refine Q4 ?_ _));exact Yg.out⟩,⟨by repeat (first|(with_reducible first|exact HB.out|apply Q2|apply Q0|apply Q3|refine Q7 ?_ Jh.out|refine Q7 ?_ Jv.out)|exact HB.out)⟩⟩
  replace c11:=Bool.eq_false_iff.mpr c11
  subst c11
  have H1:(QT.j0 k l1 l2 false Qa Qe Qc QH QG)=some (r1,r2):=by rw [if_neg (show ¬ (false=true) by decide)] at H;exact H
  clear H
  have H:=H1
  clear H1
  have H':=Q1.mk H
  clear H
  have qyQ:=Xn.out
  have qy4:=J3.out
  have Uy:w7.cell? ⟨Z7,0,none⟩=some (.slice none 0 0):=(Q6 Yg.out 0).trans rfl
  have Uz:w7.cell? ⟨Z7,1,none⟩=some (.slice none 0 0):=(Q6 Yg.out 1).trans rfl
  have UA:w7.cell? ⟨Z7,2,none⟩=some (.slice none 0 0):=(Q6 Yg.out 2).trans rfl
  have qd1:w7.cell? ⟨Z7,3,none⟩=some (.int .i64 0):=(Q6 Yg.out 3).trans rfl
  have qd2:w7.cell? ⟨Z7,4,none⟩=some (.int .i64 0):=(Q6 Yg.out 4).trans rfl
  have UB:=Q8 Yg.out 0
  have UC:=Q8 Yg.out 1
  have UD:=Q8 Yg.out 2
  have qd6:=Q8 Yg.out 3
  have qd7:=Q8 Yg.out 4
  go_wp2_with (first|((with_reducible refine Qu (f:=76) rfl ?_);refine Yk (some 20) rfl rfl Try.func76 (by kernel_rfl) rfl #[.agg #[.slice Qy Qa.length Qr,.slice Qv Qe.length Qs,.slice Qz Qc.length Qt,.int .i64 QH,.int .i64 QG]] rfl (by (try simp only [List.map_toArray,List.map_cons,List.map_nil]);first|done|rfl|(simp only [List.length_drop,List.length_take];rfl)) ?_;(with_reducible refine (Qh.calls k _ _ Qa _ _ Qe _ _ Qc QH QG false _ ?side1 ?side2 ?side3 ?side4 ?side5 ?side6 A10.out).mono ?_);(case side1=>exact Kd.C_below Z1.out (by repeat (first|(with_reducible first|exact HB.out|apply Q2|apply Q0|apply Q3|refine Q7 ?_ Jh.out|refine Q7 ?_ Jv.out)|exact HB.out)));(case side2=>exact Zh.out);(case side3=>exact Kd.C_below Z0.out (by repeat (first|(with_reducible first|exact HB.out|apply Q2|apply Q0|apply Q3|refine Q7 ?_ Jh.out|refine Q7 ?_ Jv.out)|exact HB.out)));(case side4=>exact Z9.out);(case side5=>exact Kd.C_below YV.out (by repeat (first|(with_reducible first|exact HB.out|apply Q2|apply Q0|apply Q3|refine Q7 ?_ Jh.out|refine Q7 ?_ Jv.out)|exact HB.out)));(case side6=>exact Zd.out);rintro e w22 ⟨rfl,hb⟩;refine ⟨_,rfl,?_⟩;have n0_:=Q1.mk (Qg (g:=Jk) (o:=.cells #[.slice Qy Qa.length Qr,.slice Qv Qe.length Qs,.slice Qz Qc.length Qt,.int .i64 QH,.int .i64 QG] 39 (0,0)) (by (with_reducible repeat (first|refine Q5 ?_ _|refine Q9 ?_|refine Q4 ?_ _));refine Qp ?_ J3.out _;(with_reducible repeat (first|refine Q5 ?_ _|refine Q9 ?_|refine Q4 ?_ _));refine Qp ?_ J3.out _;(with_reducible repeat (first|refine Q5 ?_ _|refine Q9 ?_|refine Q4 ?_ _));refine Qp ?_ J3.out _;(with_reducible repeat (first|refine Q5 ?_ _|refine Q9 ?_|refine Q4 ?_ _));refine Qp ?_ J3.out _;(with_reducible repeat (first|refine Q5 ?_ _|refine Q9 ?_|refine Q4 ?_ _));refine Qp ?_ J3.out _;(with_reducible repeat (first|refine Q5 ?_ _|refine Q9 ?_|refine Q4 ?_ _));exact Z5.out) hb);have n1_:=Q1.mk (Qg (g:=Z7) (o:=.cells #[.slice Qy Qa.length Qr,.slice Qv Qe.length Qs,.slice Qz Qc.length Qt,.int .i64 QH,.int .i64 QG] 111 (0,0)) (by (with_reducible repeat (first|refine Q5 ?_ _|refine Q9 ?_|refine Q4 ?_ _));refine QM (cs:=#[.slice Qy Qa.length Qr,.slice Qv Qe.length Qs,.slice Qz Qc.length Qt,.int .i64 QH,.int .i64 0]) ?_ 4 _ rfl;(with_reducible repeat (first|refine Q5 ?_ _|refine Q9 ?_|refine Q4 ?_ _));refine QM (cs:=#[.slice Qy Qa.length Qr,.slice Qv Qe.length Qs,.slice Qz Qc.length Qt,.int .i64 0,.int .i64 0]) ?_ 3 _ rfl;(with_reducible repeat (first|refine Q5 ?_ _|refine Q9 ?_|refine Q4 ?_ _));refine QM (cs:=#[.slice Qy Qa.length Qr,.slice Qv Qe.length Qs,.slice none 0 0,.int .i64 0,.int .i64 0]) ?_ 2 _ rfl;(with_reducible repeat (first|refine Q5 ?_ _|refine Q9 ?_|refine Q4 ?_ _));refine QM (cs:=#[.slice Qy Qa.length Qr,.slice none 0 0,.slice none 0 0,.int .i64 0,.int .i64 0]) ?_ 1 _ rfl;(with_reducible repeat (first|refine Q5 ?_ _|refine Q9 ?_|refine Q4 ?_ _));refine QM (cs:=#[.slice none 0 0,.slice none 0 0,.slice none 0 0,.int .i64 0,.int .i64 0]) ?_ 0 _ rfl;(with_reducible repeat (first|refine Q5 ?_ _|refine Q9 ?_|refine Q4 ?_ _));exact Yg.out) hb);have n2_:=Q1.mk (Qi (by repeat (first|(with_reducible first|exact HB.out|apply Q2|apply Q0|apply Q3|refine Q7 ?_ Jh.out|refine Q7 ?_ Jv.out)|exact HB.out)) hb);clear Z5 Yg HB;have Z5:=n0_;have Yg:=n1_;have HB:=n2_;clear n0_ n1_ n2_;(try clear hb);(try clear hb2);(try clear hk);(try clear hi)))
  go_meet
  case rel=>exact ⟨_,(false),(by first|rfl|(simp;done)|(simp [*];done)),H',⟨by first|omega|exact Nat.le_refl _⟩,⟨by (with_reducible repeat (first|refine Q5 ?_ _|refine Q9 ?_|refine Q4 ?_ _));exact Z5.out⟩,⟨by (with_reducible repeat (first|refine Q5 ?_ _|refine Q9 ?_|refine Q4 ?_ _));exact Yg.out⟩,⟨by repeat (first|(with_reducible first|exact HB.out|apply Q2|apply Q0|apply Q3|refine Q7 ?_ Jh.out|refine Q7 ?_ Jv.out)|exact HB.out)⟩⟩
 case rest =>
  clear HC4
  try clear c1
  try clear c2
  try clear p2
  try clear c7
  try clear c8
  try clear c11
  try clear c13
  try clear c14
  try clear c17
  try clear c20
  try clear Jq
  try clear Jr
  try clear JF
  try clear O1
  try clear O2
  try clear UW
  try clear UX
  try clear UY
  try clear qb2
  try clear qb3
  try clear Uy
  try clear Uz
  try clear UA
  try clear qd1
  try clear qd2
  try clear Ww
  try clear Wx
  try clear X9
  try clear qgs
  try clear qgt
  try clear GH
  try clear GI
  try clear GJ
  try clear qgw
  try clear qgx
  try clear Js
  try clear Jt
  try clear JG
  try clear O7
  try clear O8
  try clear UZ
  try clear W4
  try clear W5
  try clear qb9
  try clear qca
  try clear UB
  try clear UC
  try clear UD
  try clear qd6
  try clear qd7
  try clear Wy
  try clear Wz
  try clear Xa
  try clear qgH
  try clear qgI
  try clear GK
  try clear GL
  try clear GM
  try clear qgL
  try clear qgM
  obtain ⟨kq,qs1,rfl,HA,HJ3,Z5,Yg,HB⟩:=hcut
  cases kq with
  | zero=>exact absurd HA.out (by simp [QT.j0])
  | succ kj3 =>
   have H:=HA.out
   clear HA
   simp only [QT.j0] at H
   have H':=Q1.mk H
   clear H
   go_wp2
   go_loopg [9,10] kj3 (fun kq v9 v10 w' => ∃ (YJ:Bool) (Ja:Int),v9 = .bool YJ∧v10 = .int .i64 Ja∧Q1 (QT.l0 kq l1 l2 YJ Ja Qa Qe Qc QH QG=some (r1,r2))∧Q1 (kq≤kj3)∧Q1 (w'.heap[Jk]? = some (.cells #[(.slice Qy Qa.length Qr),(.slice Qv Qe.length Qs),(.slice Qz Qc.length Qt),.int .i64 QH,.int .i64 QG] 39 (0,0)))∧Q1 (w'.heap[Z7]? = some (.cells #[(.slice Qy Qa.length Qr),(.slice Qv Qe.length Qs),(.slice Qz Qc.length Qt),.int .i64 QH,.int .i64 QG] 111 (0,0)))∧Q1 (Below w.heap.size w w'))
   case atStart=>exact ⟨(qs1),(0),(by first|rfl|(simp;done)|(simp [*];done)),(by first|rfl|(simp;done)|(simp [*];done)),H',⟨Nat.le_refl _⟩,⟨by (with_reducible repeat (first|refine Q5 ?_ _|refine Q9 ?_|refine Q4 ?_ _));exact Z5.out⟩,⟨by (with_reducible repeat (first|refine Q5 ?_ _|refine Q9 ?_|refine Q4 ?_ _));exact Yg.out⟩,⟨by repeat (first|(with_reducible first|exact HB.out|apply Q2|apply Q0|apply Q3|refine Q7 ?_ Jh.out|refine Q7 ?_ Jv.out)|exact HB.out)⟩⟩
   case round =>
    clear H';(try clear c1);(try clear c2);(try clear p2);(try clear c7);(try clear c8);(try clear c11);(try clear c13);(try clear c14);(try clear c17);(try clear c20);(try clear Jq);(try clear Jr);(try clear JF);(try clear O1);(try clear O2);(try clear UW);(try clear UX);(try clear UY);(try clear qb2);(try clear qb3);(try clear Uy);(try clear Uz);(try clear UA);(try clear qd1);(try clear qd2);(try clear Ww);(try clear Wx);(try clear X9);(try clear qgs);(try clear qgt);(try clear GH);(try clear GI);(try clear GJ);(try clear qgw);(try clear qgx);(try clear Js);(try clear Jt);(try clear JG);(try clear O7);(try clear O8);(try clear UZ);(try clear W4);(try clear W5);(try clear qb9);(try clear qca);(try clear UB);(try clear UC);(try clear UD);(try clear qd6);(try clear qd7);(try clear Wy);(try clear Wz);(try clear Xa);(try clear qgH);(try clear qgI);(try clear GK);(try clear GL);(try clear GM);(try clear qgL);(try clear qgM);(try clear p2);obtain ⟨YJ,Ja,rfl,rfl,HA,HK2,Z5,Yg,HB⟩:=hrel
    cases gk with
    | zero=>exact absurd HA.out (by simp [QT.l0])
    | succ k2 =>
     have H:=HA.out;clear HA;simp only [QT.l0] at H;have qjM:=Q1.mk H;clear H
     go_upto_region 4 with (fail)
     go_cut [39] (fun v39 wc => ∃ (kq:Nat) (qhw:Bool),v39 = .bool qhw∧Q1 (QT.j2 kq l1 l2 YJ Ja qhw Qa Qe Qc QH QG=some (r1,r2))∧Q1 (kq≤k2)∧Q1 (wc.heap[Jk]? = some (.cells #[(.slice Qy Qa.length Qr),(.slice Qv Qe.length Qs),(.slice Qz Qc.length Qt),.int .i64 QH,.int .i64 QG] 39 (0,0)))∧Q1 (wc.heap[Z7]? = some (.cells #[(.slice Qy Qa.length Qr),(.slice Qv Qe.length Qs),(.slice Qz Qc.length Qt),.int .i64 QH,.int .i64 QG] 111 (0,0)))∧Q1 (Below w.heap.size w wc))
     case first =>
      have H:=qjM.out;clear qjM
      by_cases c24:YJ=true
      ·
       subst c24
       have H1:(QT.j2 k2 l1 l2 true Ja (decide (Ja<(l1.length:Int))) Qa Qe Qc QH QG)=some (r1,r2):=by rw [if_pos rfl] at H;exact H
       clear H;have H:=H1;clear H1;have H':=Q1.mk H;clear H
       go_wp2
       go_meet
       case rel=>exact ⟨_,(decide (Ja<(l1.length:Int))),(by first|rfl|(simp;done)|(simp [*];done)),H',⟨by have:=HJ3.out;have:=HK2.out;first|omega|exact Nat.le_refl _⟩,⟨by (with_reducible repeat (first|refine Q5 ?_ _|refine Q9 ?_|refine Q4 ?_ _));exact Z5.out⟩,⟨by (with_reducible repeat (first|refine Q5 ?_ _|refine Q9 ?_|refine Q4 ?_ _));exact Yg.out⟩,⟨by repeat (first|(with_reducible first|exact HB.out|apply Q2|apply Q0|apply Q3|refine Q7 ?_ Jh.out|refine Q7 ?_ Jv.out)|exact HB.out)⟩⟩
      replace c24:=Bool.eq_false_iff.mpr c24;subst c24
      have H1:(QT.j2 k2 l1 l2 false Ja false Qa Qe Qc QH QG)=some (r1,r2):=by rw [if_neg (show ¬ (false=true) by decide)] at H;exact H
      clear H;have H:=H1;clear H1;have H':=Q1.mk H;clear H
      go_wp2
      go_meet
      case rel=>exact ⟨_,(false),(by first|rfl|(simp;done)|(simp [*];done)),H',⟨by have:=HJ3.out;have:=HK2.out;first|omega|exact Nat.le_refl _⟩,⟨by (with_reducible repeat (first|refine Q5 ?_ _|refine Q9 ?_|refine Q4 ?_ _));exact Z5.out⟩,⟨by (with_reducible repeat (first|refine Q5 ?_ _|refine Q9 ?_|refine Q4 ?_ _));exact Yg.out⟩,⟨by repeat (first|(with_reducible first|exact HB.out|apply Q2|apply Q0|apply Q3|refine Q7 ?_ Jh.out|refine Q7 ?_ Jv.out)|exact HB.out)⟩⟩
     case rest =>
      clear qjM;(try clear c1);(try clear c2);(try clear p2);(try clear c7);(try clear c8);(try clear c11);(try clear c13);(try clear c14);(try clear c17);(try clear c20);(try clear c24);(try clear Jq);(try clear Jr);(try clear JF);(try clear O1);(try clear O2);(try clear UW);(try clear UX);(try clear UY);(try clear qb2);(try clear qb3);(try clear Uy);(try clear Uz);(try clear UA);(try clear qd1);(try clear qd2);(try clear Ww);(try clear Wx);(try clear X9);(try clear qgs);(try clear qgt);(try clear GH);(try clear GI);(try clear GJ);(try clear qgw);(try clear qgx);(try clear Js);(try clear Jt);(try clear JG);(try clear O7);(try clear O8);(try clear UZ);(try clear W4);(try clear W5);(try clear qb9);(try clear qca);(try clear UB);(try clear UC);(try clear UD);(try clear qd6);(try clear qd7);(try clear Wy);(try clear Wz);(try clear Xa);(try clear qgH);(try clear qgI);(try clear GK);(try clear GL);(try clear GM);(try clear qgL);(try clear qgM);(try clear p2);obtain ⟨kq,qhw,rfl,HA,X8,Z5,Yg,HB⟩:=hcut
      cases kq with
      | zero=>exact absurd HA.out (by simp [QT.j2])
      | succ qap =>
       have H:=HA.out;clear HA;simp only [QT.j2] at H
       by_cases c25:qhw=true
       ·
        subst c25
        have H1:(if 0≤Ja then (if Ja<(l1.length:Int) then ((Qn.f (rd l1 Ja) 0 100000000).bind fun t159=>(if t159=true then (if Ja<(l2.length:Int) then ((Qn.f (rd l2 Ja) 0 100000).bind fun qe9=>(QT.l0 qap l1 l2 qe9 (wrap64 (Ja+1)) Qa Qe Qc QH QG)) else (none)) else (QT.l0 qap l1 l2 false (wrap64 (Ja+1)) Qa Qe Qc QH QG))) else (none)) else (none))=some (r1,r2):=by rw [if_pos rfl] at H;exact H
        clear H;have H:=H1;clear H1
        by_cases c26:0≤Ja
        ·
         rw [if_pos c26] at H;have c26b0:decide (0≤Ja)=true:=decide_eq_true c26;clear c26
         by_cases c27:Ja<(l1.length:Int)
         ·
          rw [if_pos c27] at H;have c27b0:decide (Ja<(l1.length:Int))=true:=decide_eq_true c27;clear c27;replace H:=Option.bind_eq_some_iff.mp H;obtain ⟨t159,qwi,H⟩:=H;replace H:(if t159=true then (if Ja<(l2.length:Int) then ((Qn.f (rd l2 Ja) 0 100000).bind fun qe9=>(QT.l0 qap l1 l2 qe9 (wrap64 (Ja+1)) Qa Qe Qc QH QG)) else (none)) else (QT.l0 qap l1 l2 false (wrap64 (Ja+1)) Qa Qe Qc QH QG))=some (r1,r2):=H;have A28:=Q1.mk qwi;clear qwi
          by_cases c29:t159=true
          ·
           subst c29
           have H1:(if Ja<(l2.length:Int) then ((Qn.f (rd l2 Ja) 0 100000).bind fun qe9=>(QT.l0 qap l1 l2 qe9 (wrap64 (Ja+1)) Qa Qe Qc QH QG)) else (none))=some (r1,r2):=by rw [if_pos rfl] at H;exact H
           clear H;have H:=H1;clear H1
           by_cases c30:Ja<(l2.length:Int)
           ·
            rw [if_pos c30] at H;have c30b0:decide (Ja<(l2.length:Int))=true:=decide_eq_true c30;clear c30;replace H:=Option.bind_eq_some_iff.mp H;obtain ⟨qe9,qwj,H⟩:=H;replace H:(QT.l0 qap l1 l2 qe9 (wrap64 (Ja+1)) Qa Qe Qc QH QG)=some (r1,r2):=H;have A31:=Q1.mk qwj;clear qwj;have H':=Q1.mk H;clear H;have qiX:0≤(Ja:Int):=of_decide_eq_true (by first|(with_reducible assumption)|assumption);have qi0:Ja<(l1.length:Int):=of_decide_eq_true (by first|(with_reducible assumption)|assumption);obtain ⟨qw6,quM,WQ⟩:=Kd.at_int HR1.out Ja qiX qi0;cases quM;replace WQ:=(HB.out.cell (World.block_lt_of_cell? w _ WQ)).trans WQ;replace qiX:=eq_true qiX;replace qi0:=eq_true qi0
            go_wp2_with (first|((with_reducible refine Qu (f:=65) rfl ?_);refine Yk (some 46) rfl rfl Try.func65 (by kernel_rfl) rfl #[.int .i64 (rd l1 Ja),.int .i64 0,.int .i64 100000000] rfl (by (try simp only [List.map_toArray,List.map_cons,List.map_nil]);first|done|rfl|(simp only [List.length_drop,List.length_take];rfl)) ?_;(with_reducible refine (Qn.calls (rd l1 Ja) 0 100000000 true _ A28.out).mono ?_);rintro e w' ⟨rfl,⟨nd,rfl⟩⟩;refine ⟨_,rfl,?_⟩;have qsk:0≤(Ja:Int):=of_decide_eq_true (by first|(with_reducible assumption)|assumption);have qst:Ja<(l2.length:Int):=of_decide_eq_true (by first|(with_reducible assumption)|assumption);obtain ⟨qHt,qFD,qel⟩:=Kd.at_int HR2.out Ja qsk qst;cases qFD;replace qel:=(HB.out.cell (World.block_lt_of_cell? w _ qel)).trans qel;replace qsk:=eq_true qsk;replace qst:=eq_true qst)|(go_at_call 65;(with_reducible refine (Qn.calls (rd l2 Ja) 0 100000 qe9 _ A31.out).mono ?_);rintro e w' ⟨rfl,⟨nd,rfl⟩⟩))
            go_roundg qap
            case measure=>have:=HJ3.out;have:=HK2.out;have:=X8.out;omega
            case rel=>exact ⟨(qe9),(wrap64 (Ja+1)),(by first|rfl|(simp;done)|(simp [*];done)),(by first|rfl|(simp;done)|(simp [*];done)),H',⟨by have:=HJ3.out;have:=HK2.out;have:=X8.out;omega⟩,⟨by (with_reducible repeat (first|refine Q5 ?_ _|refine Q9 ?_|refine Q4 ?_ _));exact Z5.out⟩,⟨by (with_reducible repeat (first|refine Q5 ?_ _|refine Q9 ?_|refine Q4 ?_ _));exact Yg.out⟩,⟨by repeat (first|(with_reducible first|exact HB.out|apply Q2|apply Q0|apply Q3|refine Q7 ?_ Jh.out|refine Q7 ?_ Jv.out)|exact HB.out)⟩⟩
           rw [if_neg c30] at H
           exact absurd H (by simp)
          replace c29:=Bool.eq_false_iff.mpr c29;subst c29
          have H1:(QT.l0 qap l1 l2 false (wrap64 (Ja+1)) Qa Qe Qc QH QG)=some (r1,r2):=by rw [if_neg (show ¬ (false=true) by decide)] at H;exact H
          clear H;have H:=H1;clear H1;have H':=Q1.mk H;clear H;have qiX:0≤(Ja:Int):=of_decide_eq_true (by first|(with_reducible assumption)|assumption);have qi0:Ja<(l1.length:Int):=of_decide_eq_true (by first|(with_reducible assumption)|assumption);obtain ⟨qw6,quM,WQ⟩:=Kd.at_int HR1.out Ja qiX qi0;cases quM;replace WQ:=(HB.out.cell (World.block_lt_of_cell? w _ WQ)).trans WQ;replace qiX:=eq_true qiX;replace qi0:=eq_true qi0
          go_wp2_with (first|((with_reducible refine Qu (f:=65) rfl ?_);refine Yk (some 46) rfl rfl Try.func65 (by kernel_rfl) rfl #[.int .i64 (rd l1 Ja),.int .i64 0,.int .i64 100000000] rfl (by (try simp only [List.map_toArray,List.map_cons,List.map_nil]);first|done|rfl|(simp only [List.length_drop,List.length_take];rfl)) ?_;(with_reducible refine (Qn.calls (rd l1 Ja) 0 100000000 false _ A28.out).mono ?_);rintro e w' ⟨rfl,⟨nd,rfl⟩⟩;refine ⟨_,rfl,?_⟩))
          go_roundg qap
          case measure=>have:=HJ3.out;have:=HK2.out;have:=X8.out;omega
          case rel=>exact ⟨(false),(wrap64 (Ja+1)),(by first|rfl|(simp;done)|(simp [*];done)),(by first|rfl|(simp;done)|(simp [*];done)),H',⟨by have:=HJ3.out;have:=HK2.out;have:=X8.out;omega⟩,⟨by (with_reducible repeat (first|refine Q5 ?_ _|refine Q9 ?_|refine Q4 ?_ _));exact Z5.out⟩,⟨by (with_reducible repeat (first|refine Q5 ?_ _|refine Q9 ?_|refine Q4 ?_ _));exact Yg.out⟩,⟨by repeat (first|(with_reducible first|exact HB.out|apply Q2|apply Q0|apply Q3|refine Q7 ?_ Jh.out|refine Q7 ?_ Jv.out)|exact HB.out)⟩⟩
         rw [if_neg c27] at H
         exact absurd H (by simp)
        rw [if_neg c26] at H
        exact absurd H (by simp)
       replace c25:=Bool.eq_false_iff.mpr c25;subst c25
       have H1:(if YJ=true then ((Zb.f Qa Qe Qc QH QG).bind fun OV=>(QT.l1 qap l1 l2 ([]:List Int) (l1.length:Int) 0 Qa Qe Qc QH QG OV.1 OV.2.1 OV.2.2.1 OV.2.2.2.1 OV.2.2.2.2.1 OV.2.2.2.2.2)) else (some (([]:List Int),92)))=some (r1,r2):=by rw [if_neg (show ¬ (false=true) by decide)] at H;exact H
       clear H;have H:=H1;clear H1
       by_cases c32:YJ=true
       ·
        subst c32
        have H1:((Zb.f Qa Qe Qc QH QG).bind fun OV=>(QT.l1 qap l1 l2 ([]:List Int) (l1.length:Int) 0 Qa Qe Qc QH QG OV.1 OV.2.1 OV.2.2.1 OV.2.2.2.1 OV.2.2.2.2.1 OV.2.2.2.2.2))=some (r1,r2):=by rw [if_pos rfl] at H;exact H
        clear H;have H:=H1;clear H1;replace H:=Option.bind_eq_some_iff.mp H;obtain ⟨⟨t162,qkS,t164,qpN,qsD,t167⟩,qwl,H⟩:=H;replace H:(QT.l1 qap l1 l2 ([]:List Int) (l1.length:Int) 0 Qa Qe Qc QH QG t162 qkS t164 qpN qsD t167)=some (r1,r2):=H;have A33:=Q1.mk qwl;clear qwl;have H':=Q1.mk H;clear H;have qH9:=Xn.out;have qIL:=J3.out;have qlO:wc.cell? ⟨Z7,0,none⟩=some (.slice Qy Qa.length Qr):=(Q6 Yg.out 0).trans rfl;have qlP:wc.cell? ⟨Z7,1,none⟩=some (.slice Qv Qe.length Qs):=(Q6 Yg.out 1).trans rfl;have qlQ:wc.cell? ⟨Z7,2,none⟩=some (.slice Qz Qc.length Qt):=(Q6 Yg.out 2).trans rfl;have qq1:wc.cell? ⟨Z7,3,none⟩=some (.int .i64 QH):=(Q6 Yg.out 3).trans rfl;have qq2:wc.cell? ⟨Z7,4,none⟩=some (.int .i64 QG):=(Q6 Yg.out 4).trans rfl;have ql9:=Q8 Yg.out 0;have qma:=Q8 Yg.out 1;have qmb:=Q8 Yg.out 2;have qrF:=Q8 Yg.out 3;have qrG:=Q8 Yg.out 4
        go_wp2_with (first|((with_reducible refine Qu (f:=78) rfl ?_);refine Yk (some 57) rfl rfl Try.func78 (by kernel_rfl) rfl #[.agg #[.slice Qy Qa.length Qr,.slice Qv Qe.length Qs,.slice Qz Qc.length Qt,.int .i64 QH,.int .i64 QG]] rfl (by (try simp only [List.map_toArray,List.map_cons,List.map_nil]);first|done|rfl|(simp only [List.length_drop,List.length_take];rfl)) ?_;(with_reducible refine (Zb.calls _ _ Qa _ _ Qe _ _ Qc QH QG t162 qkS t164 qpN qsD t167 _ ?side1 ?side2 ?side3 ?side4 ?side5 ?side6 A33.out).mono ?_);(case side1=>repeat (first|exact (Kd.C_below Z1.out HB.out)|(with_reducible refine Kd.C_alloc ?_ _)|(with_reducible refine Kd.C_drewN ?_ _)|(with_reducible refine Kd.C_drew ?_)));(case side2=>exact Zh.out);(case side3=>repeat (first|exact (Kd.C_below Z0.out HB.out)|(with_reducible refine Kd.C_alloc ?_ _)|(with_reducible refine Kd.C_drewN ?_ _)|(with_reducible refine Kd.C_drew ?_)));(case side4=>exact Z9.out);(case side5=>repeat (first|exact (Kd.C_below YV.out HB.out)|(with_reducible refine Kd.C_alloc ?_ _)|(with_reducible refine Kd.C_drewN ?_ _)|(with_reducible refine Kd.C_drew ?_)));(case side6=>exact Zd.out);rintro e w36 ⟨rfl,hb⟩;refine ⟨_,rfl,?_⟩;have n0_:=Q1.mk (Qg (g:=Jk) (by (with_reducible repeat (first|refine Q5 ?_ _|refine Q9 ?_|refine Q4 ?_ _));exact Z5.out) hb);have n1_:=Q1.mk (Qg (g:=Z7) (by (with_reducible repeat (first|refine Q5 ?_ _|refine Q9 ?_|refine Q4 ?_ _));exact Yg.out) hb);have n2_:=Q1.mk (Qi (by repeat (first|(with_reducible first|exact HB.out|apply Q2|apply Q0|apply Q3|refine Q7 ?_ Jh.out|refine Q7 ?_ Jv.out)|exact HB.out)) hb);clear Z5 Yg HB;have Z5:=n0_;have Yg:=n1_;have HB:=n2_;clear n0_ n1_ n2_;(try clear hb);(try clear hb2);(try clear hk);(try clear hi))|((with_reducible refine QR (N:=12) rfl ?_);(try (refine Gr (by rfl) ?_;dsimp only));refine Yf ?hg (N:=12) ?hd (cs:=#[.int .i64 0,.int .i64 0,.int .i64 0,.int .i64 0,.int .i64 0,.int .i64 0]) (t:=115) ?hr ?_;(case hd=>rfl);(case hg=>rfl);(case hr=>first|(go_simp;done)|(go_simp;rfl));intro YA hg w37 hbox hb;have n0_:=Q1.mk (Qg (g:=Jk) (by (with_reducible repeat (first|refine Q5 ?_ _|refine Q9 ?_|refine Q4 ?_ _));exact Z5.out) hb);have n1_:=Q1.mk (Qg (g:=Z7) (by (with_reducible repeat (first|refine Q5 ?_ _|refine Q9 ?_|refine Q4 ?_ _));exact Yg.out) hb);have n2_:=Q1.mk (Qi (by repeat (first|(with_reducible first|exact HB.out|apply Q2|apply Q0|apply Q3|refine Q7 ?_ Jh.out|refine Q7 ?_ Jv.out)|exact HB.out)) hb);have n3_:=Q1.mk (hbox);have n4_:=Q1.mk ((by rw [hg];exact (Qf (by repeat (first|(with_reducible first|exact HB.out|apply Q2|apply Q0|apply Q3|refine Q7 ?_ Jh.out|refine Q7 ?_ Jv.out)|exact HB.out))):w.heap.size≤YA));have n5_:=n4_;have n6_:=Q1.mk ((by rw [hg];exact Nat.ne_of_lt (Y0 (g:=Jk) (by (with_reducible repeat (first|refine Q5 ?_ _|refine Q9 ?_|refine Q4 ?_ _));exact Z5.out)):Jk≠YA));have n7_:=Q1.mk (n6_.out.symm);have n8_:=Q1.mk ((by rw [hg];exact Nat.ne_of_lt (Y0 (g:=Z7) (by (with_reducible repeat (first|refine Q5 ?_ _|refine Q9 ?_|refine Q4 ?_ _));exact Yg.out)):Z7≠YA));have n9_:=Q1.mk (n8_.out.symm);clear Z5 Yg HB;have Z5:=n0_;have Yg:=n1_;have HB:=n2_;have YM:=n3_;have qHa:=n4_;have UM:=n5_;have Jb:=n6_;have Uk:=n7_;have Jc:=n8_;have Ul:=n9_;clear n0_ n1_ n2_ n3_ n4_ n5_ n6_ n7_ n8_ n9_ hb hbox hg;have qIb:=Uk.out;have qIN:=Jb.out;have qtS:=Ul.out;have qtT:=Jc.out;have qd3:w37.cell? ⟨YA,0,none⟩=some (.int .i64 0):=(Q6 YM.out 0).trans rfl;have qd4:w37.cell? ⟨YA,1,none⟩=some (.int .i64 0):=(Q6 YM.out 1).trans rfl;have qd5:w37.cell? ⟨YA,2,none⟩=some (.int .i64 0):=(Q6 YM.out 2).trans rfl;have qq7:w37.cell? ⟨YA,3,none⟩=some (.int .i64 0):=(Q6 YM.out 3).trans rfl;have qq8:w37.cell? ⟨YA,4,none⟩=some (.int .i64 0):=(Q6 YM.out 4).trans rfl;have qq9:w37.cell? ⟨YA,5,none⟩=some (.int .i64 0):=(Q6 YM.out 5).trans rfl;have qd8:=Q8 YM.out 0;have qd9:=Q8 YM.out 1;have qea:=Q8 YM.out 2;have qrL:=Q8 YM.out 3;have qrM:=Q8 YM.out 4;have qrN:=Q8 YM.out 5))
        go_loopg [13,60] qap (fun kq v13 v60 w' => ∃ (Ks:List Int) (JE:Int) (ZG:Int) (Zy:Int) (Zw:Int) (Zs:Int) (Zp:Int) (Zj:Int),v60 = .int .i64 JE∧Q1 (QT.l1 kq l1 l2 Ks (l1.length:Int) JE Qa Qe Qc QH QG ZG Zy Zw Zs Zp Zj=some (r1,r2))∧Q1 (kq≤qap)∧Q1 (Kd.R (Kd.int .i64) 3 w' w.heap.size (fun k_=>(w.heap.size≤k_)) v13 Ks)∧Q1 (w'.heap[Jk]? = some (.cells #[(.slice Qy Qa.length Qr),(.slice Qv Qe.length Qs),(.slice Qz Qc.length Qt),.int .i64 QH,.int .i64 QG] 39 (0,0)))∧Q1 (w'.heap[Z7]? = some (.cells #[(.slice Qy Qa.length Qr),(.slice Qv Qe.length Qs),(.slice Qz Qc.length Qt),.int .i64 QH,.int .i64 QG] 111 (0,0)))∧Q1 (w'.heap[YA]? = some (.cells #[.int .i64 ZG,.int .i64 Zy,.int .i64 Zw,.int .i64 Zs,.int .i64 Zp,.int .i64 Zj] 115 (0,0)))∧Q1 (Below w.heap.size w w'))
        case atStart=>exact ⟨(([]:List Int)),(0),(t162),(qkS),(t164),(qpN),(qsD),(t167),(by first|rfl|(simp;done)|(simp [*];done)),H',⟨Nat.le_refl _⟩,⟨by first|exact Kd.R_nil _ _ _ _ _|exact Kd.N_nil _ _ _ _ _|exact Kd.V_nil _ _ _ _ _|exact Kd.Q_nil _ _ _ _ _|exact Kd.S_nil _ _ _ _ _⟩,⟨by (with_reducible repeat (first|refine Q5 ?_ _|refine Q9 ?_|refine Q4 ?_ _));refine Qp ?_ Jb.out _;(with_reducible repeat (first|refine Q5 ?_ _|refine Q9 ?_|refine Q4 ?_ _));refine Qp ?_ Jb.out _;(with_reducible repeat (first|refine Q5 ?_ _|refine Q9 ?_|refine Q4 ?_ _));refine Qp ?_ Jb.out _;(with_reducible repeat (first|refine Q5 ?_ _|refine Q9 ?_|refine Q4 ?_ _));refine Qp ?_ Jb.out _;(with_reducible repeat (first|refine Q5 ?_ _|refine Q9 ?_|refine Q4 ?_ _));refine Qp ?_ Jb.out _;(with_reducible repeat (first|refine Q5 ?_ _|refine Q9 ?_|refine Q4 ?_ _));refine Qp ?_ Jb.out _;(with_reducible repeat (first|refine Q5 ?_ _|refine Q9 ?_|refine Q4 ?_ _));exact Z5.out⟩,⟨by (with_reducible repeat (first|refine Q5 ?_ _|refine Q9 ?_|refine Q4 ?_ _));refine Qp ?_ Jc.out _;(with_reducible repeat (first|refine Q5 ?_ _|refine Q9 ?_|refine Q4 ?_ _));refine Qp ?_ Jc.out _;(with_reducible repeat (first|refine Q5 ?_ _|refine Q9 ?_|refine Q4 ?_ _));refine Qp ?_ Jc.out _;(with_reducible repeat (first|refine Q5 ?_ _|refine Q9 ?_|refine Q4 ?_ _));refine Qp ?_ Jc.out _;(with_reducible repeat (first|refine Q5 ?_ _|refine Q9 ?_|refine Q4 ?_ _));refine Qp ?_ Jc.out _;(with_reducible repeat (first|refine Q5 ?_ _|refine Q9 ?_|refine Q4 ?_ _));refine Qp ?_ Jc.out _;(with_reducible repeat (first|refine Q5 ?_ _|refine Q9 ?_|refine Q4 ?_ _));exact Yg.out⟩,⟨by (with_reducible repeat (first|refine Q5 ?_ _|refine Q9 ?_|refine Q4 ?_ _));refine QM (cs:=#[.int .i64 t162,.int .i64 qkS,.int .i64 t164,.int .i64 qpN,.int .i64 qsD,.int .i64 0]) ?_ 5 _ rfl;(with_reducible repeat (first|refine Q5 ?_ _|refine Q9 ?_|refine Q4 ?_ _));refine QM (cs:=#[.int .i64 t162,.int .i64 qkS,.int .i64 t164,.int .i64 qpN,.int .i64 0,.int .i64 0]) ?_ 4 _ rfl;(with_reducible repeat (first|refine Q5 ?_ _|refine Q9 ?_|refine Q4 ?_ _));refine QM (cs:=#[.int .i64 t162,.int .i64 qkS,.int .i64 t164,.int .i64 0,.int .i64 0,.int .i64 0]) ?_ 3 _ rfl;(with_reducible repeat (first|refine Q5 ?_ _|refine Q9 ?_|refine Q4 ?_ _));refine QM (cs:=#[.int .i64 t162,.int .i64 qkS,.int .i64 0,.int .i64 0,.int .i64 0,.int .i64 0]) ?_ 2 _ rfl;(with_reducible repeat (first|refine Q5 ?_ _|refine Q9 ?_|refine Q4 ?_ _));refine QM (cs:=#[.int .i64 t162,.int .i64 0,.int .i64 0,.int .i64 0,.int .i64 0,.int .i64 0]) ?_ 1 _ rfl;(with_reducible repeat (first|refine Q5 ?_ _|refine Q9 ?_|refine Q4 ?_ _));refine QM (cs:=#[.int .i64 0,.int .i64 0,.int .i64 0,.int .i64 0,.int .i64 0,.int .i64 0]) ?_ 0 _ rfl;(with_reducible repeat (first|refine Q5 ?_ _|refine Q9 ?_|refine Q4 ?_ _));exact YM.out⟩,⟨by repeat (first|(with_reducible first|exact HB.out|apply Q2|apply Q0|apply Q3|refine Q7 ?_ Jh.out|refine Q7 ?_ Jv.out|refine Q7 ?_ UM.out)|exact HB.out)⟩⟩
        case round =>
         clear H';(try clear c1);(try clear p1);(try clear q1);(try clear hx1);(try clear c2);(try clear p2);(try clear c3);(try clear c6);(try clear p6);(try clear c7);(try clear c8);(try clear c11);(try clear c13);(try clear c14);(try clear p15);(try clear q15);(try clear qKj);(try clear p16);(try clear q16);(try clear hx16);(try clear c17);(try clear c20);(try clear c24);(try clear c25);(try clear c26);(try clear c26b0);(try clear c27);(try clear c27b0);(try clear c29);(try clear c30);(try clear c30b0);(try clear c32);(try clear c34);(try clear c38);(try clear c39);(try clear Jq);(try clear Jr);(try clear JF);(try clear O1);(try clear O2);(try clear UW);(try clear UX);(try clear UY);(try clear qb2);(try clear qb3);(try clear Uy);(try clear Uz);(try clear UA);(try clear qd1);(try clear qd2);(try clear qlO);(try clear qlP);(try clear qlQ);(try clear qq1);(try clear qq2);(try clear qd3);(try clear qd4);(try clear qd5);(try clear qq7);(try clear qq8);(try clear qq9);(try clear Ww);(try clear Wx);(try clear X9);(try clear qgs);(try clear qgt);(try clear GH);(try clear GI);(try clear GJ);(try clear qgw);(try clear qgx);(try clear Js);(try clear Jt);(try clear JG);(try clear O7);(try clear O8);(try clear UZ);(try clear W4);(try clear W5);(try clear qb9);(try clear qca);(try clear UB);(try clear UC);(try clear UD);(try clear qd6);(try clear qd7);(try clear ql9);(try clear qma);(try clear qmb);(try clear qrF);(try clear qrG);(try clear qd8);(try clear qd9);(try clear qea);(try clear qrL);(try clear qrM);(try clear qrN);(try clear Wy);(try clear Wz);(try clear Xa);(try clear qgH);(try clear qgI);(try clear GK);(try clear GL);(try clear GM);(try clear qgL);(try clear qgM);(try clear WQ);(try clear qel);(try clear qiX);(try clear qsk);(try clear p2);(try clear qi0);(try clear qst);obtain ⟨Ks,JE,ZG,Zy,Zw,Zs,Zp,Zj,rfl,HA,HK4,HO_13,Z5,Yg,YM,HB⟩:=hrel
         cases gk with
         | zero=>exact absurd HA.out (by simp [QT.l1])
         | succ k4 =>
          have H:=HA.out;clear HA;simp only [QT.l1] at H
          by_cases c41:JE<(l1.length:Int)
          ·
           rw [if_pos c41] at H;have c41b0:decide (JE<(l1.length:Int))=true:=decide_eq_true c41;clear c41
           by_cases c42:0≤JE
           ·
            rw [if_pos c42] at H;have c42b0:decide (0≤JE)=true:=decide_eq_true c42;clear c42
            by_cases c43:JE<(l1.length:Int)
            ·
             rw [if_pos c43] at H;have c43b0:decide (JE<(l1.length:Int))=true:=decide_eq_true c43;clear c43
             by_cases c44:JE<(l2.length:Int)
             ·
              rw [if_pos c44] at H;have c44b0:decide (JE<(l2.length:Int))=true:=decide_eq_true c44;clear c44;replace H:=Option.bind_eq_some_iff.mp H;obtain ⟨⟨t171,OY,t173,UQ,t175,WH,Xv⟩,qod,H⟩:=H;replace H:(if Ks.length<17592186044416 then (QT.l1 k4 l1 l2 (Ks++[t171]) (l1.length:Int) (wrap64 (JE+1)) Qa Qe Qc QH QG OY t173 UQ t175 WH Xv) else (none))=some (r1,r2):=H;have A45:=Q1.mk qod;clear qod
              by_cases c46:Ks.length<17592186044416
              ·
               rw [if_pos c46] at H;have qwR:=Q1.mk c46;clear c46;obtain ⟨qzF,qij⟩:∃ y_:List Int,y_=(Ks++[t171]):=⟨_,rfl⟩
               replace H:(QT.l1 k4 l1 l2 qzF (l1.length:Int) (wrap64 (JE+1)) Qa Qe Qc QH QG OY t173 UQ t175 WH Xv)=some (r1,r2):=by first|(rw [qij];with_reducible exact H)|(have H2_:=(Option.bind_some _ _).symm.trans H;rw [qij];with_reducible exact H2_)|(have H2_:=(Option.bind_some _ _).symm.trans H;with_reducible exact H2_)|with_reducible exact H|(rw [qij];exact H)|exact H
               have qwS:=Q1.mk qij;clear qij;have H':=Q1.mk H;clear H
               try go_wp2
               have n0_:=Q1.mk (Kd.R_drew HO_13.out);have n1_:=Q1.mk (Q9 Z5.out);have n2_:=Q1.mk (Q9 Yg.out);have n3_:=Q1.mk (Q9 YM.out);have n4_:=Q1.mk (Q3 HB.out);clear HO_13 Z5 Yg YM HB;have HO_13:=n0_;have Z5:=n1_;have Yg:=n2_;have YM:=n3_;have HB:=n4_;clear n0_ n1_ n2_ n3_ n4_;have qvp:0≤(JE:Int):=of_decide_eq_true (by first|(with_reducible assumption)|assumption);have qvJ:JE<(l1.length:Int):=of_decide_eq_true (by first|(with_reducible assumption)|assumption);obtain ⟨qoB,e169,qcG⟩:=Kd.at_int HR1.out JE qvp qvJ;have ZB:=qcG;cases e169;replace qcG:=(HB.out.cell (World.block_lt_of_cell? w _ qcG)).trans qcG;replace qvp:=eq_true qvp;replace qvJ:=eq_true qvJ;have qvq:0≤(JE:Int):=of_decide_eq_true (by first|(with_reducible assumption)|assumption);have qvK:JE<(l2.length:Int):=of_decide_eq_true (by first|(with_reducible assumption)|assumption);obtain ⟨qoC,e170,qcH⟩:=Kd.at_int HR2.out JE qvq qvK;have ZC:=qcH;cases e170;replace qcH:=(HB.out.cell (World.block_lt_of_cell? w _ qcH)).trans qcH;replace qvq:=eq_true qvq;replace qvK:=eq_true qvK;refine OO (n:=18) (S:=fun w'=>w'.cell? ⟨Z7,0,none⟩=some (.slice Qy Qa.length Qr)∧w'.cell? ⟨Z7,1,none⟩=some (.slice Qv Qe.length Qs)∧w'.cell? ⟨Z7,2,none⟩=some (.slice Qz Qc.length Qt)∧w'.cell? ⟨Z7,3,none⟩=some (.int .i64 QH)∧w'.cell? ⟨Z7,4,none⟩=some (.int .i64 QG)∧w'.cell? ⟨YA,0,none⟩=some (.int .i64 ZG)∧w'.cell? ⟨YA,1,none⟩=some (.int .i64 Zy)∧w'.cell? ⟨YA,2,none⟩=some (.int .i64 Zw)∧w'.cell? ⟨YA,3,none⟩=some (.int .i64 Zs)∧w'.cell? ⟨YA,4,none⟩=some (.int .i64 Zp)∧w'.cell? ⟨YA,5,none⟩=some (.int .i64 Zj)∧w'.cell? (qoB.add (JE).toNat)=some (.int .i64 (rd l1 JE))∧w'.cell? (qoC.add (JE).toNat)=some (.int .i64 (rd l2 JE))) (ds:=[]) #[false,false,false,false,false,false,false,false,false,false,false,false,false,false,false,false,false,false] (by kernel_rfl) rfl rfl ⟨(Q6 Yg.out 0).trans rfl,(Q6 Yg.out 1).trans rfl,(Q6 Yg.out 2).trans rfl,(Q6 Yg.out 3).trans rfl,(Q6 Yg.out 4).trans rfl,(Q6 YM.out 0).trans rfl,(Q6 YM.out 1).trans rfl,(Q6 YM.out 2).trans rfl,(Q6 YM.out 3).trans rfl,(Q6 YM.out 4).trans rfl,(Q6 YM.out 5).trans rfl,((HB.out.cell (World.block_lt_of_cell? w _ ZB)).trans ZB),((HB.out.cell (World.block_lt_of_cell? w _ ZC)).trans ZC)⟩ (fun hHeld => ?_);refine Gq QT.tab15 QT.bits15 (fun HT_ HW_ => ?_)
               generalize wr.drew=w47 at HO_13 Z5 Yg YM HB qcG qcH hHeld ⊢
               refine Y2 (i:=0) (N:=some 64) (v:=?_) (a':=?_) #[true,false,false,false,false,false,false,false,false,false,false,false,false,false,false,false,false,false] rfl rfl (QJ HT_.out (by kernel_rfl)) (fun _ _ _ h=>h) (Or.inl ⟨by rfl,?_⟩) ?_ ?_
               rotate_left
               ·
                intro w'
                go_simp
                with_reducible rfl
               rotate_left
               ·
                simp only [Act.put,List.setIfInBounds_toArray,List.set_cons_zero,List.set_cons_succ,QC,QD]
                rfl
               refine Y2 (i:=3) (N:=some 67) (v:=?_) (a':=?_) #[true,false,false,true,false,false,false,false,false,false,false,false,false,false,false,false,false,false] rfl rfl (QJ HT_.out (by kernel_rfl)) (fun _ _ _ h=>h) (Or.inl ⟨by rfl,?_⟩) ?_ ?_
               rotate_left
               ·
                intro w'
                go_simp
                with_reducible rfl
               rotate_left
               ·
                simp only [Act.put,List.setIfInBounds_toArray,List.set_cons_zero,List.set_cons_succ,QC,QD]
                rfl
               refine Y2 (i:=4) (N:=some 68) (v:=?_) (a':=?_) #[true,false,false,true,true,false,false,false,false,false,false,false,false,false,false,false,false,false] rfl rfl (QJ HT_.out (by kernel_rfl)) (fun _ _ _ h=>h) (Or.inl ⟨by rfl,?_⟩) ?_ ?_
               rotate_left
               ·
                intro w'
                go_simp
                with_reducible rfl
               rotate_left
               ·
                simp only [Act.put,List.setIfInBounds_toArray,List.set_cons_zero,List.set_cons_succ,QC,QD]
                rfl
               refine Y2 (i:=5) (N:=some 69) (v:=?_) (a':=?_) #[true,false,false,true,true,true,false,false,false,false,false,false,false,false,false,false,false,false] rfl rfl (QJ HT_.out (by kernel_rfl)) (fun _ _ _ h=>h) (Or.inl ⟨by rfl,?_⟩) ?_ ?_
               rotate_left
               ·
                intro w'
                go_simp
                with_reducible rfl
               rotate_left
               ·
                simp only [Act.put,List.setIfInBounds_toArray,List.set_cons_zero,List.set_cons_succ,QC,QD]
                rfl
               refine Y2 (i:=7) (N:=some 71) (v:=?_) (a':=?_) #[true,false,false,true,true,true,false,true,false,false,false,false,false,false,false,false,false,false] rfl rfl (QJ HT_.out (by kernel_rfl)) (fun _ _ _ h=>h) (Or.inl ⟨by rfl,?_⟩) ?_ ?_
               rotate_left
               ·
                intro w'
                go_simp
                with_reducible rfl
               rotate_left
               ·
                simp only [Act.put,List.setIfInBounds_toArray,List.set_cons_zero,List.set_cons_succ,QC,QD]
                rfl
               refine Y2 (i:=8) (N:=some 72) (v:=?_) (a':=?_) #[true,false,false,true,true,true,false,true,true,false,false,false,false,false,false,false,false,false] rfl rfl (QJ HT_.out (by kernel_rfl)) (fun _ _ _ h=>h) (Or.inl ⟨by rfl,?_⟩) ?_ ?_
               rotate_left
               ·
                intro w'
                go_simp
                with_reducible rfl
               rotate_left
               ·
                simp only [Act.put,List.setIfInBounds_toArray,List.set_cons_zero,List.set_cons_succ,QC,QD]
                rfl
               refine Y2 (i:=9) (N:=some 73) (v:=?_) (a':=?_) #[true,false,false,true,true,true,false,true,true,true,false,false,false,false,false,false,false,false] rfl rfl (QJ HT_.out (by kernel_rfl)) (fun _ _ _ h=>h) (Or.inl ⟨by rfl,?_⟩) ?_ ?_
               rotate_left
               ·
                intro w'
                go_simp
                with_reducible rfl
               rotate_left
               ·
                simp only [Act.put,List.setIfInBounds_toArray,List.set_cons_zero,List.set_cons_succ,QC,QD]
                rfl
               refine J8 (i:=1) (N:=some 65) (v:=?_) (a':=?_) #[true,true,false,true,true,true,false,true,true,true,false,false,false,false,false,false,false,false] rfl rfl (YN HT_.out HW_.out (by kernel_rfl)) (fun _ _ _ h=>h) (Or.inl ⟨by rfl,?_⟩) hHeld ?_ ?_
               rotate_left
               ·
                rintro w' ⟨s0,s1,s2,s3,s4,s5,s6,s7,s8,s9,s10,s11,s12⟩
                go_simp
                with_reducible rfl
               rotate_left
               ·
                simp only [Act.put,List.setIfInBounds_toArray,List.set_cons_zero,List.set_cons_succ,QC,QD]
                rfl
               refine J8 (i:=2) (N:=some 66) (v:=?_) (a':=?_) #[true,true,true,true,true,true,false,true,true,true,false,false,false,false,false,false,false,false] rfl rfl (YN HT_.out HW_.out (by kernel_rfl)) (fun _ _ _ h=>h) (Or.inl ⟨by rfl,?_⟩) hHeld ?_ ?_
               rotate_left
               ·
                rintro w' ⟨s0,s1,s2,s3,s4,s5,s6,s7,s8,s9,s10,s11,s12⟩
                go_simp
                with_reducible rfl
               rotate_left
               ·
                simp only [Act.put,List.setIfInBounds_toArray,List.set_cons_zero,List.set_cons_succ,QC,QD]
                rfl
               refine J8 (i:=6) (N:=some 70) (v:=?_) (a':=?_) #[true,true,true,true,true,true,true,true,true,true,false,false,false,false,false,false,false,false] rfl rfl (YN HT_.out HW_.out (by kernel_rfl)) (fun _ _ _ h=>h) (Or.inl ⟨by rfl,?_⟩) hHeld ?_ ?_
               rotate_left
               ·
                rintro w' ⟨s0,s1,s2,s3,s4,s5,s6,s7,s8,s9,s10,s11,s12⟩
                go_simp
                with_reducible rfl
               rotate_left
               ·
                simp only [Act.put,List.setIfInBounds_toArray,List.set_cons_zero,List.set_cons_succ,QC,QD]
                rfl
               refine J8 (i:=10) (N:=some 74) (v:=?_) (a':=?_) #[true,true,true,true,true,true,true,true,true,true,true,false,false,false,false,false,false,false] rfl rfl (YN HT_.out HW_.out (by kernel_rfl)) (fun _ _ _ h=>h) (Or.inl ⟨by rfl,?_⟩) hHeld ?_ ?_
               rotate_left
               ·
                rintro w' ⟨s0,s1,s2,s3,s4,s5,s6,s7,s8,s9,s10,s11,s12⟩
                go_simp
                with_reducible rfl
               rotate_left
               ·
                simp only [Act.put,List.setIfInBounds_toArray,List.set_cons_zero,List.set_cons_succ,QC,QD]
                rfl
               refine qtZ (σ:=Nat) 2 #[true,true,true,true,true,true,true,true,true,true,true,true,true,true,true,true,false,false] (fun s_=>[(75,.tuple #[.int .i64 t171,.agg #[.int .i64 OY,.int .i64 t173,.int .i64 UQ,.int .i64 t175,.int .i64 WH,.int .i64 Xv]]),(16,.pointer (some ⟨s_,0,none⟩)),(63,.tuple #[.int .i64 t171,.agg #[.int .i64 OY,.int .i64 t173,.int .i64 UQ,.int .i64 t175,.int .i64 WH,.int .i64 Xv]]),(76,.int .i64 t171),(77,.agg #[.int .i64 OY,.int .i64 t173,.int .i64 UQ,.int .i64 t175,.int .i64 WH,.int .i64 Xv])]) (fun s_ w'=>(w'.cell? ⟨Z7,0,none⟩=some (.slice Qy Qa.length Qr)∧w'.cell? ⟨Z7,1,none⟩=some (.slice Qv Qe.length Qs)∧w'.cell? ⟨Z7,2,none⟩=some (.slice Qz Qc.length Qt)∧w'.cell? ⟨Z7,3,none⟩=some (.int .i64 QH)∧w'.cell? ⟨Z7,4,none⟩=some (.int .i64 QG)∧w'.cell? ⟨YA,0,none⟩=some (.int .i64 ZG)∧w'.cell? ⟨YA,1,none⟩=some (.int .i64 Zy)∧w'.cell? ⟨YA,2,none⟩=some (.int .i64 Zw)∧w'.cell? ⟨YA,3,none⟩=some (.int .i64 Zs)∧w'.cell? ⟨YA,4,none⟩=some (.int .i64 Zp)∧w'.cell? ⟨YA,5,none⟩=some (.int .i64 Zj)∧w'.cell? (qoB.add (JE).toNat)=some (.int .i64 (rd l1 JE))∧w'.cell? (qoC.add (JE).toNat)=some (.int .i64 (rd l2 JE)))∧(Kd.R (Kd.int .i64) 3 w' w.heap.size (fun k_=>(w.heap.size≤k_)) u13 Ks)∧(w'.heap[Jk]? = some (.cells #[.slice Qy Qa.length Qr,.slice Qv Qe.length Qs,.slice Qz Qc.length Qt,.int .i64 QH,.int .i64 QG] 39 (0,0)))∧(w'.heap[Z7]? = some (.cells #[.slice Qy Qa.length Qr,.slice Qv Qe.length Qs,.slice Qz Qc.length Qt,.int .i64 QH,.int .i64 QG] 111 (0,0)))∧(w'.heap[YA]? = some (.cells #[.int .i64 ZG,.int .i64 Zy,.int .i64 Zw,.int .i64 Zs,.int .i64 Zp,.int .i64 Zj] 115 (0,0)))∧(w'.heap[s_]? = some (.cells #[.int .i64 0,.int .i64 0,.int .i64 0,.int .i64 0,.int .i64 0,.int .i64 0] 115 (0,0)))∧(w.heap.size≤s_)∧(w.heap.size≤s_)∧(Jk≠s_)∧(s_≠Jk)∧(Z7≠s_)∧(s_≠Z7)∧(YA≠s_)∧(s_≠YA)∧(Below w.heap.size w w')) ?_ ?_
               rotate_left
               ·
                intro hCont;refine two_ (i:=11) (j:=15) (Ni:=some 75) (Nj:=some 16) #[true,true,true,true,true,true,true,true,true,true,true,true,false,false,false,false,false,false] #[true,true,true,true,true,true,true,true,true,true,true,false,false,false,false,true,false,false] rfl rfl rfl rfl (qpP HT_.out (by kernel_rfl)) (by decide) (by decide) (fun K hK => ?_) (fun K hK => ?_)
                ·
                 skip
                 refine qgi Try.func77 (by kernel_rfl) rfl #[.agg #[.slice Qy Qa.length Qr,.slice Qv Qe.length Qs,.slice Qz Qc.length Qt,.int .i64 QH,.int .i64 QG],.agg #[.int .i64 ZG,.int .i64 Zy,.int .i64 Zw,.int .i64 Zs,.int .i64 Zp,.int .i64 Zj],.int .i64 (rd l1 JE),.int .i64 (rd l2 JE)] 64 (by rfl) rfl rfl rfl (by (try simp only [List.map_toArray,List.map_cons,List.map_nil]);first|done|rfl|(simp only [List.length_drop,List.length_take];rfl)) ?_
                 with_reducible refine (Z8.calls _ _ Qa _ _ Qe _ _ Qc QH QG ZG Zy Zw Zs Zp Zj (rd l1 JE) (rd l2 JE) t171 OY t173 UQ t175 WH Xv _ ?side1 ?side2 ?side3 ?side4 ?side5 ?side6 A45.out).mono ?_
                 (case side1=>repeat (first|exact (Kd.C_below Z1.out HB.out)|(with_reducible refine Kd.C_alloc ?_ _)|(with_reducible refine Kd.C_drewN ?_ _)|(with_reducible refine Kd.C_drew ?_)))
                 (case side2=>exact Zh.out)
                 (case side3=>repeat (first|exact (Kd.C_below Z0.out HB.out)|(with_reducible refine Kd.C_alloc ?_ _)|(with_reducible refine Kd.C_drewN ?_ _)|(with_reducible refine Kd.C_drew ?_)))
                 (case side4=>exact Z9.out)
                 (case side5=>repeat (first|exact (Kd.C_below YV.out HB.out)|(with_reducible refine Kd.C_alloc ?_ _)|(with_reducible refine Kd.C_drewN ?_ _)|(with_reducible refine Kd.C_drew ?_)))
                 (case side6=>exact Zd.out)
                 rintro e w48 ⟨rfl,hb⟩;refine ⟨_,rfl,?_⟩;have n0_:=Q1.mk (Kd.R_below (by (with_reducible repeat (first|apply Kd.R_alloc|apply Kd.R_drewN|apply Kd.R_drew));exact HO_13.out) hb);have n1_:=Q1.mk (Qg (g:=Jk) (by (with_reducible repeat (first|refine Q5 ?_ _|refine Q9 ?_|refine Q4 ?_ _));exact Z5.out) hb);have n2_:=Q1.mk (Qg (g:=Z7) (by (with_reducible repeat (first|refine Q5 ?_ _|refine Q9 ?_|refine Q4 ?_ _));exact Yg.out) hb);have n3_:=Q1.mk (Qg (g:=YA) (by (with_reducible repeat (first|refine Q5 ?_ _|refine Q9 ?_|refine Q4 ?_ _));exact YM.out) hb);have n4_:=Q1.mk (Qi (by repeat (first|(with_reducible first|exact HB.out|apply Q2|apply Q0|apply Q3|refine Q7 ?_ Jh.out|refine Q7 ?_ Jv.out|refine Q7 ?_ UM.out)|exact HB.out)) hb);clear HO_13 Z5 Yg YM HB;have HO_13:=n0_;have Z5:=n1_;have Yg:=n2_;have YM:=n3_;have HB:=n4_;clear n0_ n1_ n2_ n3_ n4_
                 (try clear hb)
                 (try clear hb2)
                 (try clear hk)
                 (try clear hi)
                 refine hK.out _ _ ⟨(Q6 Yg.out 0).trans rfl,(Q6 Yg.out 1).trans rfl,(Q6 Yg.out 2).trans rfl,(Q6 Yg.out 3).trans rfl,(Q6 Yg.out 4).trans rfl,(Q6 YM.out 0).trans rfl,(Q6 YM.out 1).trans rfl,(Q6 YM.out 2).trans rfl,(Q6 YM.out 3).trans rfl,(Q6 YM.out 4).trans rfl,(Q6 YM.out 5).trans rfl,((HB.out.cell (World.block_lt_of_cell? w _ ZB)).trans ZB),((HB.out.cell (World.block_lt_of_cell? w _ ZC)).trans ZC)⟩ (fun hHeld => ?_);clear hK K;refine GA (a':=?_) ?_ ?_
                 rotate_left
                 ·
                  show Act.put _ (some 75) _=_
                  simp only [Act.put,List.setIfInBounds_toArray,List.set_cons_zero,List.set_cons_succ,QC,QD]
                  rfl
                 refine Y2 (i:=12) (N:=some 63) (v:=?_) (a':=?_) #[true,true,true,true,true,true,true,true,true,true,true,true,true,false,false,false,false,false] rfl rfl (QJ HT_.out (by kernel_rfl)) (fun _ _ _ h=>h) (Or.inl ⟨by rfl,?_⟩) ?_ ?_
                 rotate_left
                 ·
                  intro w'
                  go_simp
                  with_reducible rfl
                 rotate_left
                 ·
                  simp only [Act.put,List.setIfInBounds_toArray,List.set_cons_zero,List.set_cons_succ,QC,QD]
                  rfl
                 refine Y2 (i:=13) (N:=some 76) (v:=?_) (a':=?_) #[true,true,true,true,true,true,true,true,true,true,true,true,true,true,false,false,false,false] rfl rfl (QJ HT_.out (by kernel_rfl)) (fun _ _ _ h=>h) (Or.inl ⟨by rfl,?_⟩) ?_ ?_
                 rotate_left
                 ·
                  intro w'
                  go_simp
                  with_reducible rfl
                 rotate_left
                 ·
                  simp only [Act.put,List.setIfInBounds_toArray,List.set_cons_zero,List.set_cons_succ,QC,QD]
                  rfl
                 refine Y2 (i:=14) (N:=some 77) (v:=?_) (a':=?_) #[true,true,true,true,true,true,true,true,true,true,true,true,true,true,true,false,false,false] rfl rfl (QJ HT_.out (by kernel_rfl)) (fun _ _ _ h=>h) (Or.inl ⟨by rfl,?_⟩) ?_ ?_
                 rotate_left
                 ·
                  intro w'
                  go_simp
                  with_reducible rfl
                 rotate_left
                 ·
                  simp only [Act.put,List.setIfInBounds_toArray,List.set_cons_zero,List.set_cons_succ,QC,QD]
                  rfl
                 refine one_ (i:=15) (N:=some 16) #[true,true,true,true,true,true,true,true,true,true,true,true,true,true,true,true,false,false] rfl rfl (GD HT_.out (by kernel_rfl)) (by decide) (fun K hK => ?_);refine qbZ ?hg (N:=16) ?hd (cs:=#[.int .i64 0,.int .i64 0,.int .i64 0,.int .i64 0,.int .i64 0,.int .i64 0]) (t:=115) ?hr ?_;(case hd=>rfl);(case hg=>rfl);(case hr=>first|(go_simp;done)|(go_simp;rfl));intro QW hg w49 hbox hb;have n0_:=Q1.mk (Kd.R_below (by (with_reducible repeat (first|apply Kd.R_alloc|apply Kd.R_drewN|apply Kd.R_drew));exact HO_13.out) hb);have n1_:=Q1.mk (Qg (g:=Jk) (by (with_reducible repeat (first|refine Q5 ?_ _|refine Q9 ?_|refine Q4 ?_ _));exact Z5.out) hb);have n2_:=Q1.mk (Qg (g:=Z7) (by (with_reducible repeat (first|refine Q5 ?_ _|refine Q9 ?_|refine Q4 ?_ _));exact Yg.out) hb);have n3_:=Q1.mk (Qg (g:=YA) (by (with_reducible repeat (first|refine Q5 ?_ _|refine Q9 ?_|refine Q4 ?_ _));exact YM.out) hb);have n4_:=Q1.mk (Qi (by repeat (first|(with_reducible first|exact HB.out|apply Q2|apply Q0|apply Q3|refine Q7 ?_ Jh.out|refine Q7 ?_ Jv.out|refine Q7 ?_ UM.out)|exact HB.out)) hb);have n5_:=Q1.mk (hbox);have n6_:=Q1.mk ((by rw [hg];exact (Qf (by repeat (first|(with_reducible first|exact HB.out|apply Q2|apply Q0|apply Q3|refine Q7 ?_ Jh.out|refine Q7 ?_ Jv.out|refine Q7 ?_ UM.out)|exact HB.out))):w.heap.size≤QW));have n7_:=n6_;have n8_:=Q1.mk ((by rw [hg];exact Nat.ne_of_lt (Y0 (g:=Jk) (by (with_reducible repeat (first|refine Q5 ?_ _|refine Q9 ?_|refine Q4 ?_ _));exact Z5.out)):Jk≠QW));have n9_:=Q1.mk (n8_.out.symm);have n10_:=Q1.mk ((by rw [hg];exact Nat.ne_of_lt (Y0 (g:=Z7) (by (with_reducible repeat (first|refine Q5 ?_ _|refine Q9 ?_|refine Q4 ?_ _));exact Yg.out)):Z7≠QW));have n11_:=Q1.mk (n10_.out.symm);have n12_:=Q1.mk ((by rw [hg];exact Nat.ne_of_lt (Y0 (g:=YA) (by (with_reducible repeat (first|refine Q5 ?_ _|refine Q9 ?_|refine Q4 ?_ _));exact YM.out)):YA≠QW));have n13_:=Q1.mk (n12_.out.symm);clear HO_13 Z5 Yg YM HB;have HO_13:=n0_;have Z5:=n1_;have Yg:=n2_;have YM:=n3_;have HB:=n4_;have J0:=n5_;have ZU:=n6_;have qak:=n7_;have JJ:=n8_;have Ku:=n9_;have Yu:=n10_;have Kv:=n11_;have Yj:=n12_;have Yo:=n13_;clear n0_ n1_ n2_ n3_ n4_ n5_ n6_ n7_ n8_ n9_ n10_ n11_ n12_ n13_ hb hbox hg;refine hK.out _ _ ⟨(Q6 Yg.out 0).trans rfl,(Q6 Yg.out 1).trans rfl,(Q6 Yg.out 2).trans rfl,(Q6 Yg.out 3).trans rfl,(Q6 Yg.out 4).trans rfl,(Q6 YM.out 0).trans rfl,(Q6 YM.out 1).trans rfl,(Q6 YM.out 2).trans rfl,(Q6 YM.out 3).trans rfl,(Q6 YM.out 4).trans rfl,(Q6 YM.out 5).trans rfl,((HB.out.cell (World.block_lt_of_cell? w _ ZB)).trans ZB),((HB.out.cell (World.block_lt_of_cell? w _ ZC)).trans ZC)⟩ (fun hHeld => ?_);clear hK K;refine GA (a':=?_) ?_ ?_
                 rotate_left
                 ·
                  show Act.put _ (some 16) _=_
                  simp only [Act.put,List.setIfInBounds_toArray,List.set_cons_zero,List.set_cons_succ,QC,QD]
                  rfl
                 exact GA (by simp only [qad,Act.put,List.setIfInBounds_toArray,List.set_cons_zero,List.set_cons_succ]) (hCont (QW) _ ⟨hHeld,(by (with_reducible repeat (first|apply Kd.R_alloc|apply Kd.R_drewN|apply Kd.R_drew));exact HO_13.out),(by (with_reducible repeat (first|refine Q5 ?_ _|refine Q9 ?_|refine Q4 ?_ _));exact Z5.out),(by (with_reducible repeat (first|refine Q5 ?_ _|refine Q9 ?_|refine Q4 ?_ _));exact Yg.out),(by (with_reducible repeat (first|refine Q5 ?_ _|refine Q9 ?_|refine Q4 ?_ _));exact YM.out),(by (with_reducible repeat (first|refine Q5 ?_ _|refine Q9 ?_|refine Q4 ?_ _));exact J0.out),ZU.out,qak.out,JJ.out,Ku.out,Yu.out,Kv.out,Yj.out,Yo.out,(by repeat (first|(with_reducible first|exact HB.out|apply Q2|apply Q0|apply Q3|refine Q7 ?_ Jh.out|refine Q7 ?_ Jv.out|refine Q7 ?_ UM.out|refine Q7 ?_ qak.out)|exact HB.out))⟩)
                skip
                refine qbZ ?hg (N:=16) ?hd (cs:=#[.int .i64 0,.int .i64 0,.int .i64 0,.int .i64 0,.int .i64 0,.int .i64 0]) (t:=115) ?hr ?_;(case hd=>rfl);(case hg=>rfl);(case hr=>first|(go_simp;done)|(go_simp;rfl));intro QW hg w48 hbox hb;have n0_:=Q1.mk (Kd.R_below (by (with_reducible repeat (first|apply Kd.R_alloc|apply Kd.R_drewN|apply Kd.R_drew));exact HO_13.out) hb);have n1_:=Q1.mk (Qg (g:=Jk) (by (with_reducible repeat (first|refine Q5 ?_ _|refine Q9 ?_|refine Q4 ?_ _));exact Z5.out) hb);have n2_:=Q1.mk (Qg (g:=Z7) (by (with_reducible repeat (first|refine Q5 ?_ _|refine Q9 ?_|refine Q4 ?_ _));exact Yg.out) hb);have n3_:=Q1.mk (Qg (g:=YA) (by (with_reducible repeat (first|refine Q5 ?_ _|refine Q9 ?_|refine Q4 ?_ _));exact YM.out) hb);have n4_:=Q1.mk (Qi (by repeat (first|(with_reducible first|exact HB.out|apply Q2|apply Q0|apply Q3|refine Q7 ?_ Jh.out|refine Q7 ?_ Jv.out|refine Q7 ?_ UM.out)|exact HB.out)) hb);have n5_:=Q1.mk (hbox);have n6_:=Q1.mk ((by rw [hg];exact (Qf (by repeat (first|(with_reducible first|exact HB.out|apply Q2|apply Q0|apply Q3|refine Q7 ?_ Jh.out|refine Q7 ?_ Jv.out|refine Q7 ?_ UM.out)|exact HB.out))):w.heap.size≤QW));have n7_:=n6_;have n8_:=Q1.mk ((by rw [hg];exact Nat.ne_of_lt (Y0 (g:=Jk) (by (with_reducible repeat (first|refine Q5 ?_ _|refine Q9 ?_|refine Q4 ?_ _));exact Z5.out)):Jk≠QW));have n9_:=Q1.mk (n8_.out.symm);have n10_:=Q1.mk ((by rw [hg];exact Nat.ne_of_lt (Y0 (g:=Z7) (by (with_reducible repeat (first|refine Q5 ?_ _|refine Q9 ?_|refine Q4 ?_ _));exact Yg.out)):Z7≠QW));have n11_:=Q1.mk (n10_.out.symm);have n12_:=Q1.mk ((by rw [hg];exact Nat.ne_of_lt (Y0 (g:=YA) (by (with_reducible repeat (first|refine Q5 ?_ _|refine Q9 ?_|refine Q4 ?_ _));exact YM.out)):YA≠QW));have n13_:=Q1.mk (n12_.out.symm);clear HO_13 Z5 Yg YM HB;have HO_13:=n0_;have Z5:=n1_;have Yg:=n2_;have YM:=n3_;have HB:=n4_;have J0:=n5_;have ZU:=n6_;have qak:=n7_;have JJ:=n8_;have Ku:=n9_;have Yu:=n10_;have Kv:=n11_;have Yj:=n12_;have Yo:=n13_;clear n0_ n1_ n2_ n3_ n4_ n5_ n6_ n7_ n8_ n9_ n10_ n11_ n12_ n13_ hb hbox hg;refine hK.out _ _ ⟨(Q6 Yg.out 0).trans rfl,(Q6 Yg.out 1).trans rfl,(Q6 Yg.out 2).trans rfl,(Q6 Yg.out 3).trans rfl,(Q6 Yg.out 4).trans rfl,(Q6 YM.out 0).trans rfl,(Q6 YM.out 1).trans rfl,(Q6 YM.out 2).trans rfl,(Q6 YM.out 3).trans rfl,(Q6 YM.out 4).trans rfl,(Q6 YM.out 5).trans rfl,((HB.out.cell (World.block_lt_of_cell? w _ ZB)).trans ZB),((HB.out.cell (World.block_lt_of_cell? w _ ZC)).trans ZC)⟩ (fun hHeld => ?_);clear hK K;refine GA (a':=?_) ?_ ?_
                rotate_left
                ·
                 show Act.put _ (some 16) _=_
                 simp only [Act.put,List.setIfInBounds_toArray,List.set_cons_zero,List.set_cons_succ,QC,QD]
                 rfl
                refine one_ (i:=11) (N:=some 75) #[true,true,true,true,true,true,true,true,true,true,true,true,false,false,false,true,false,false] rfl rfl (GD HT_.out (by kernel_rfl)) (by decide) (fun K hK => ?_);refine qgi Try.func77 (by kernel_rfl) rfl #[.agg #[.slice Qy Qa.length Qr,.slice Qv Qe.length Qs,.slice Qz Qc.length Qt,.int .i64 QH,.int .i64 QG],.agg #[.int .i64 ZG,.int .i64 Zy,.int .i64 Zw,.int .i64 Zs,.int .i64 Zp,.int .i64 Zj],.int .i64 (rd l1 JE),.int .i64 (rd l2 JE)] 64 (by rfl) rfl rfl rfl (by (try simp only [List.map_toArray,List.map_cons,List.map_nil]);first|done|rfl|(simp only [List.length_drop,List.length_take];rfl)) ?_
                with_reducible refine (Z8.calls _ _ Qa _ _ Qe _ _ Qc QH QG ZG Zy Zw Zs Zp Zj (rd l1 JE) (rd l2 JE) t171 OY t173 UQ t175 WH Xv _ ?side1 ?side2 ?side3 ?side4 ?side5 ?side6 A45.out).mono ?_
                (case side1=>repeat (first|exact (Kd.C_below Z1.out HB.out)|(with_reducible refine Kd.C_alloc ?_ _)|(with_reducible refine Kd.C_drewN ?_ _)|(with_reducible refine Kd.C_drew ?_)))
                (case side2=>exact Zh.out)
                (case side3=>repeat (first|exact (Kd.C_below Z0.out HB.out)|(with_reducible refine Kd.C_alloc ?_ _)|(with_reducible refine Kd.C_drewN ?_ _)|(with_reducible refine Kd.C_drew ?_)))
                (case side4=>exact Z9.out)
                (case side5=>repeat (first|exact (Kd.C_below YV.out HB.out)|(with_reducible refine Kd.C_alloc ?_ _)|(with_reducible refine Kd.C_drewN ?_ _)|(with_reducible refine Kd.C_drew ?_)))
                (case side6=>exact Zd.out)
                rintro e w49 ⟨rfl,hb⟩;refine ⟨_,rfl,?_⟩;have n0_:=Q1.mk (Kd.R_below (by (with_reducible repeat (first|apply Kd.R_alloc|apply Kd.R_drewN|apply Kd.R_drew));exact HO_13.out) hb);have n1_:=Q1.mk (Qg (g:=Jk) (by (with_reducible repeat (first|refine Q5 ?_ _|refine Q9 ?_|refine Q4 ?_ _));exact Z5.out) hb);have n2_:=Q1.mk (Qg (g:=Z7) (by (with_reducible repeat (first|refine Q5 ?_ _|refine Q9 ?_|refine Q4 ?_ _));exact Yg.out) hb);have n3_:=Q1.mk (Qg (g:=YA) (by (with_reducible repeat (first|refine Q5 ?_ _|refine Q9 ?_|refine Q4 ?_ _));exact YM.out) hb);have n4_:=Q1.mk (Qg (g:=QW) (by (with_reducible repeat (first|refine Q5 ?_ _|refine Q9 ?_|refine Q4 ?_ _));exact J0.out) hb);have n5_:=Q1.mk (Qi (by repeat (first|(with_reducible first|exact HB.out|apply Q2|apply Q0|apply Q3|refine Q7 ?_ Jh.out|refine Q7 ?_ Jv.out|refine Q7 ?_ UM.out|refine Q7 ?_ qak.out)|exact HB.out)) hb);clear HO_13 Z5 Yg YM J0 HB;have HO_13:=n0_;have Z5:=n1_;have Yg:=n2_;have YM:=n3_;have J0:=n4_;have HB:=n5_;clear n0_ n1_ n2_ n3_ n4_ n5_
                (try clear hb)
                (try clear hb2)
                (try clear hk)
                (try clear hi)
                refine hK.out _ _ ⟨(Q6 Yg.out 0).trans rfl,(Q6 Yg.out 1).trans rfl,(Q6 Yg.out 2).trans rfl,(Q6 Yg.out 3).trans rfl,(Q6 Yg.out 4).trans rfl,(Q6 YM.out 0).trans rfl,(Q6 YM.out 1).trans rfl,(Q6 YM.out 2).trans rfl,(Q6 YM.out 3).trans rfl,(Q6 YM.out 4).trans rfl,(Q6 YM.out 5).trans rfl,((HB.out.cell (World.block_lt_of_cell? w _ ZB)).trans ZB),((HB.out.cell (World.block_lt_of_cell? w _ ZC)).trans ZC)⟩ (fun hHeld => ?_);clear hK K;refine GA (a':=?_) ?_ ?_
                rotate_left
                ·
                 show Act.put _ (some 75) _=_
                 simp only [Act.put,List.setIfInBounds_toArray,List.set_cons_zero,List.set_cons_succ,QC,QD]
                 rfl
                refine Y2 (i:=12) (N:=some 63) (v:=?_) (a':=?_) #[true,true,true,true,true,true,true,true,true,true,true,true,true,false,false,true,false,false] rfl rfl (QJ HT_.out (by kernel_rfl)) (fun _ _ _ h=>h) (Or.inl ⟨by rfl,?_⟩) ?_ ?_
                rotate_left
                ·
                 intro w'
                 go_simp
                 with_reducible rfl
                rotate_left
                ·
                 simp only [Act.put,List.setIfInBounds_toArray,List.set_cons_zero,List.set_cons_succ,QC,QD]
                 rfl
                refine Y2 (i:=13) (N:=some 76) (v:=?_) (a':=?_) #[true,true,true,true,true,true,true,true,true,true,true,true,true,true,false,true,false,false] rfl rfl (QJ HT_.out (by kernel_rfl)) (fun _ _ _ h=>h) (Or.inl ⟨by rfl,?_⟩) ?_ ?_
                rotate_left
                ·
                 intro w'
                 go_simp
                 with_reducible rfl
                rotate_left
                ·
                 simp only [Act.put,List.setIfInBounds_toArray,List.set_cons_zero,List.set_cons_succ,QC,QD]
                 rfl
                refine Y2 (i:=14) (N:=some 77) (v:=?_) (a':=?_) #[true,true,true,true,true,true,true,true,true,true,true,true,true,true,true,true,false,false] rfl rfl (QJ HT_.out (by kernel_rfl)) (fun _ _ _ h=>h) (Or.inl ⟨by rfl,?_⟩) ?_ ?_
                rotate_left
                ·
                 intro w'
                 go_simp
                 with_reducible rfl
                rotate_left
                ·
                 simp only [Act.put,List.setIfInBounds_toArray,List.set_cons_zero,List.set_cons_succ,QC,QD]
                 rfl
                exact GA (by simp only [qad,Act.put,List.setIfInBounds_toArray,List.set_cons_zero,List.set_cons_succ]) (hCont (QW) _ ⟨hHeld,(by (with_reducible repeat (first|apply Kd.R_alloc|apply Kd.R_drewN|apply Kd.R_drew));exact HO_13.out),(by (with_reducible repeat (first|refine Q5 ?_ _|refine Q9 ?_|refine Q4 ?_ _));exact Z5.out),(by (with_reducible repeat (first|refine Q5 ?_ _|refine Q9 ?_|refine Q4 ?_ _));exact Yg.out),(by (with_reducible repeat (first|refine Q5 ?_ _|refine Q9 ?_|refine Q4 ?_ _));exact YM.out),(by (with_reducible repeat (first|refine Q5 ?_ _|refine Q9 ?_|refine Q4 ?_ _));exact J0.out),ZU.out,qak.out,JJ.out,Ku.out,Yu.out,Kv.out,Yj.out,Yo.out,(by repeat (first|(with_reducible first|exact HB.out|apply Q2|apply Q0|apply Q3|refine Q7 ?_ Jh.out|refine Q7 ?_ Jv.out|refine Q7 ?_ UM.out|refine Q7 ?_ qak.out)|exact HB.out))⟩)
               rintro QW w50 ⟨hS_,h0_,h1_,h2_,h3_,h4_,h5_,h6_,h7_,h8_,h9_,h10_,h11_,h12_,h13_⟩;have n0_:Q1 (Kd.R (Kd.int .i64) 3 w50 w.heap.size (fun k_=>(w.heap.size≤k_)) u13 Ks):=⟨h0_⟩;have n1_:Q1 (w50.heap[Jk]? = some (.cells #[.slice Qy Qa.length Qr,.slice Qv Qe.length Qs,.slice Qz Qc.length Qt,.int .i64 QH,.int .i64 QG] 39 (0,0))):=⟨h1_⟩;have n2_:Q1 (w50.heap[Z7]? = some (.cells #[.slice Qy Qa.length Qr,.slice Qv Qe.length Qs,.slice Qz Qc.length Qt,.int .i64 QH,.int .i64 QG] 111 (0,0))):=⟨h2_⟩;have n3_:Q1 (w50.heap[YA]? = some (.cells #[.int .i64 ZG,.int .i64 Zy,.int .i64 Zw,.int .i64 Zs,.int .i64 Zp,.int .i64 Zj] 115 (0,0))):=⟨h3_⟩;have n4_:Q1 (w50.heap[QW]? = some (.cells #[.int .i64 0,.int .i64 0,.int .i64 0,.int .i64 0,.int .i64 0,.int .i64 0] 115 (0,0))):=⟨h4_⟩;have n5_:Q1 (w.heap.size≤QW):=⟨h5_⟩;have n6_:Q1 (w.heap.size≤QW):=⟨h6_⟩;have n7_:Q1 (Jk≠QW):=⟨h7_⟩;have n8_:Q1 (QW≠Jk):=⟨h8_⟩;have n9_:Q1 (Z7≠QW):=⟨h9_⟩;have n10_:Q1 (QW≠Z7):=⟨h10_⟩;have n11_:Q1 (YA≠QW):=⟨h11_⟩;have n12_:Q1 (QW≠YA):=⟨h12_⟩;have n13_:Q1 (Below w.heap.size w w50):=⟨h13_⟩;clear HO_13 Z5 Yg YM HB h0_ h1_ h2_ h3_ h4_ h5_ h6_ h7_ h8_ h9_ h10_ h11_ h12_ h13_;have HO_13:=n0_;have Z5:=n1_;have Yg:=n2_;have YM:=n3_;have J0:=n4_;have ZU:=n5_;have qak:=n6_;have JJ:=n7_;have Ku:=n8_;have Yu:=n9_;have Kv:=n10_;have Yj:=n11_;have Yo:=n12_;have HB:=n13_;clear n0_ n1_ n2_ n3_ n4_ n5_ n6_ n7_ n8_ n9_ n10_ n11_ n12_ n13_;have hHeld:w50.cell? ⟨Z7,0,none⟩=some (.slice Qy Qa.length Qr)∧w50.cell? ⟨Z7,1,none⟩=some (.slice Qv Qe.length Qs)∧w50.cell? ⟨Z7,2,none⟩=some (.slice Qz Qc.length Qt)∧w50.cell? ⟨Z7,3,none⟩=some (.int .i64 QH)∧w50.cell? ⟨Z7,4,none⟩=some (.int .i64 QG)∧w50.cell? ⟨YA,0,none⟩=some (.int .i64 ZG)∧w50.cell? ⟨YA,1,none⟩=some (.int .i64 Zy)∧w50.cell? ⟨YA,2,none⟩=some (.int .i64 Zw)∧w50.cell? ⟨YA,3,none⟩=some (.int .i64 Zs)∧w50.cell? ⟨YA,4,none⟩=some (.int .i64 Zp)∧w50.cell? ⟨YA,5,none⟩=some (.int .i64 Zj)∧w50.cell? (qoB.add (JE).toNat)=some (.int .i64 (rd l1 JE))∧w50.cell? (qoC.add (JE).toNat)=some (.int .i64 (rd l2 JE)):=hS_;refine GA (a':=?_) ?_ ?_
               rotate_left
               ·
                simp only [qad,Act.put,List.setIfInBounds_toArray,List.set_cons_zero,List.set_cons_succ]
                rfl
               refine Y2 (i:=16) (N:=some 15) (v:=?_) (a':=?_) #[true,true,true,true,true,true,true,true,true,true,true,true,true,true,true,true,true,false] rfl rfl (QJ HT_.out (by kernel_rfl)) (fun _ _ _ h=>h) (Or.inl ⟨by rfl,?_⟩) ?_ ?_
               rotate_left
               ·
                intro w'
                go_simp
                with_reducible rfl
               rotate_left
               ·
                simp only [Act.put,List.setIfInBounds_toArray,List.set_cons_zero,List.set_cons_succ,QC,QD]
                rfl
               refine one_ (i:=17) (N:=none) #[true,true,true,true,true,true,true,true,true,true,true,true,true,true,true,true,true,true] rfl rfl (GD HT_.out (by kernel_rfl)) (by decide) (fun K hK => ?_);have qJ4:w50.cell? ⟨QW,0,none⟩=some (.int .i64 0):=(Q6 J0.out 0).trans rfl;have qHP:=Q8 J0.out 0;have qEy:=JJ.out;have qEz:=Yu.out;have qEA:=Yj.out;have qDM:=Ku.out;have qDN:=Kv.out;have qDO:=Yo.out;have qJ5:w50.cell? ⟨QW,1,none⟩=some (.int .i64 0):=(Q6 J0.out 1).trans rfl;have qHQ:=Q8 J0.out 1;have qEB:=JJ.out;have qEC:=Yu.out;have qED:=Yj.out;have qDP:=Ku.out;have qDQ:=Kv.out;have qDR:=Yo.out;have qJ6:w50.cell? ⟨QW,2,none⟩=some (.int .i64 0):=(Q6 J0.out 2).trans rfl;have qHR:=Q8 J0.out 2;have qEE:=JJ.out;have qEF:=Yu.out;have qEG:=Yj.out;have qDS:=Ku.out;have qDT:=Kv.out;have qDU:=Yo.out;have qJ7:w50.cell? ⟨QW,3,none⟩=some (.int .i64 0):=(Q6 J0.out 3).trans rfl;have qHS:=Q8 J0.out 3;have qEH:=JJ.out;have qEI:=Yu.out;have qEJ:=Yj.out;have qDV:=Ku.out;have qDW:=Kv.out;have qDX:=Yo.out;have qJ8:w50.cell? ⟨QW,4,none⟩=some (.int .i64 0):=(Q6 J0.out 4).trans rfl;have qHT:=Q8 J0.out 4;have qEK:=JJ.out;have qEL:=Yu.out;have qEM:=Yj.out;have qDY:=Ku.out;have qDZ:=Kv.out;have qD0:=Yo.out;have qJ9:w50.cell? ⟨QW,5,none⟩=some (.int .i64 0):=(Q6 J0.out 5).trans rfl;have qHU:=Q8 J0.out 5;have qEN:=JJ.out;have qEO:=Yu.out;have qEP:=Yj.out;have qD1:=Ku.out;have qD2:=Kv.out;have qD3:=Yo.out;refine qmU (w1:=?_) (by rfl) rfl ?_ ?_
               rotate_left
               ·
                go_simp
                rfl
               refine hK.out _ _ ⟨((Qo (p:=⟨QW,_,none⟩) Yu.out _).trans (((Qo (p:=⟨QW,_,none⟩) Yu.out _).trans (((Qo (p:=⟨QW,_,none⟩) Yu.out _).trans (((Qo (p:=⟨QW,_,none⟩) Yu.out _).trans (((Qo (p:=⟨QW,_,none⟩) Yu.out _).trans (((Qo (p:=⟨QW,_,none⟩) Yu.out _).trans (hHeld.1)))))))))))),((Qo (p:=⟨QW,_,none⟩) Yu.out _).trans (((Qo (p:=⟨QW,_,none⟩) Yu.out _).trans (((Qo (p:=⟨QW,_,none⟩) Yu.out _).trans (((Qo (p:=⟨QW,_,none⟩) Yu.out _).trans (((Qo (p:=⟨QW,_,none⟩) Yu.out _).trans (((Qo (p:=⟨QW,_,none⟩) Yu.out _).trans (hHeld.2.1)))))))))))),((Qo (p:=⟨QW,_,none⟩) Yu.out _).trans (((Qo (p:=⟨QW,_,none⟩) Yu.out _).trans (((Qo (p:=⟨QW,_,none⟩) Yu.out _).trans (((Qo (p:=⟨QW,_,none⟩) Yu.out _).trans (((Qo (p:=⟨QW,_,none⟩) Yu.out _).trans (((Qo (p:=⟨QW,_,none⟩) Yu.out _).trans (hHeld.2.2.1)))))))))))),((Qo (p:=⟨QW,_,none⟩) Yu.out _).trans (((Qo (p:=⟨QW,_,none⟩) Yu.out _).trans (((Qo (p:=⟨QW,_,none⟩) Yu.out _).trans (((Qo (p:=⟨QW,_,none⟩) Yu.out _).trans (((Qo (p:=⟨QW,_,none⟩) Yu.out _).trans (((Qo (p:=⟨QW,_,none⟩) Yu.out _).trans (hHeld.2.2.2.1)))))))))))),((Qo (p:=⟨QW,_,none⟩) Yu.out _).trans (((Qo (p:=⟨QW,_,none⟩) Yu.out _).trans (((Qo (p:=⟨QW,_,none⟩) Yu.out _).trans (((Qo (p:=⟨QW,_,none⟩) Yu.out _).trans (((Qo (p:=⟨QW,_,none⟩) Yu.out _).trans (((Qo (p:=⟨QW,_,none⟩) Yu.out _).trans (hHeld.2.2.2.2.1)))))))))))),((Qo (p:=⟨QW,_,none⟩) Yj.out _).trans (((Qo (p:=⟨QW,_,none⟩) Yj.out _).trans (((Qo (p:=⟨QW,_,none⟩) Yj.out _).trans (((Qo (p:=⟨QW,_,none⟩) Yj.out _).trans (((Qo (p:=⟨QW,_,none⟩) Yj.out _).trans (((Qo (p:=⟨QW,_,none⟩) Yj.out _).trans (hHeld.2.2.2.2.2.1)))))))))))),((Qo (p:=⟨QW,_,none⟩) Yj.out _).trans (((Qo (p:=⟨QW,_,none⟩) Yj.out _).trans (((Qo (p:=⟨QW,_,none⟩) Yj.out _).trans (((Qo (p:=⟨QW,_,none⟩) Yj.out _).trans (((Qo (p:=⟨QW,_,none⟩) Yj.out _).trans (((Qo (p:=⟨QW,_,none⟩) Yj.out _).trans (hHeld.2.2.2.2.2.2.1)))))))))))),((Qo (p:=⟨QW,_,none⟩) Yj.out _).trans (((Qo (p:=⟨QW,_,none⟩) Yj.out _).trans (((Qo (p:=⟨QW,_,none⟩) Yj.out _).trans (((Qo (p:=⟨QW,_,none⟩) Yj.out _).trans (((Qo (p:=⟨QW,_,none⟩) Yj.out _).trans (((Qo (p:=⟨QW,_,none⟩) Yj.out _).trans (hHeld.2.2.2.2.2.2.2.1)))))))))))),((Qo (p:=⟨QW,_,none⟩) Yj.out _).trans (((Qo (p:=⟨QW,_,none⟩) Yj.out _).trans (((Qo (p:=⟨QW,_,none⟩) Yj.out _).trans (((Qo (p:=⟨QW,_,none⟩) Yj.out _).trans (((Qo (p:=⟨QW,_,none⟩) Yj.out _).trans (((Qo (p:=⟨QW,_,none⟩) Yj.out _).trans (hHeld.2.2.2.2.2.2.2.2.1)))))))))))),((Qo (p:=⟨QW,_,none⟩) Yj.out _).trans (((Qo (p:=⟨QW,_,none⟩) Yj.out _).trans (((Qo (p:=⟨QW,_,none⟩) Yj.out _).trans (((Qo (p:=⟨QW,_,none⟩) Yj.out _).trans (((Qo (p:=⟨QW,_,none⟩) Yj.out _).trans (((Qo (p:=⟨QW,_,none⟩) Yj.out _).trans (hHeld.2.2.2.2.2.2.2.2.2.1)))))))))))),((Qo (p:=⟨QW,_,none⟩) Yj.out _).trans (((Qo (p:=⟨QW,_,none⟩) Yj.out _).trans (((Qo (p:=⟨QW,_,none⟩) Yj.out _).trans (((Qo (p:=⟨QW,_,none⟩) Yj.out _).trans (((Qo (p:=⟨QW,_,none⟩) Yj.out _).trans (((Qo (p:=⟨QW,_,none⟩) Yj.out _).trans (hHeld.2.2.2.2.2.2.2.2.2.2.1)))))))))))),((Qo (p:=⟨QW,_,none⟩) (by first|exact Nat.ne_of_lt (Nat.lt_of_lt_of_le (by have:=World.block_lt_of_cell? _ _ ZB;first|rwa [Ql] at this|exact this) ZU.out)|(rw [Ql];exact Nat.ne_of_lt (Nat.lt_of_lt_of_le (by have:=World.block_lt_of_cell? _ _ ZB;first|rwa [Ql] at this|exact this) ZU.out))|(show (Addr.add _ _).block≠_;rw [Ql];exact Nat.ne_of_lt (Nat.lt_of_lt_of_le (by have:=World.block_lt_of_cell? _ _ ZB;first|rwa [Ql] at this|exact this) ZU.out))|(dsimp only;exact Nat.ne_of_lt (Nat.lt_of_lt_of_le (by have:=World.block_lt_of_cell? _ _ ZB;first|rwa [Ql] at this|exact this) ZU.out))) _).trans (((Qo (p:=⟨QW,_,none⟩) (by first|exact Nat.ne_of_lt (Nat.lt_of_lt_of_le (by have:=World.block_lt_of_cell? _ _ ZB;first|rwa [Ql] at this|exact this) ZU.out)|(rw [Ql];exact Nat.ne_of_lt (Nat.lt_of_lt_of_le (by have:=World.block_lt_of_cell? _ _ ZB;first|rwa [Ql] at this|exact this) ZU.out))|(show (Addr.add _ _).block≠_;rw [Ql];exact Nat.ne_of_lt (Nat.lt_of_lt_of_le (by have:=World.block_lt_of_cell? _ _ ZB;first|rwa [Ql] at this|exact this) ZU.out))|(dsimp only;exact Nat.ne_of_lt (Nat.lt_of_lt_of_le (by have:=World.block_lt_of_cell? _ _ ZB;first|rwa [Ql] at this|exact this) ZU.out))) _).trans (((Qo (p:=⟨QW,_,none⟩) (by first|exact Nat.ne_of_lt (Nat.lt_of_lt_of_le (by have:=World.block_lt_of_cell? _ _ ZB;first|rwa [Ql] at this|exact this) ZU.out)|(rw [Ql];exact Nat.ne_of_lt (Nat.lt_of_lt_of_le (by have:=World.block_lt_of_cell? _ _ ZB;first|rwa [Ql] at this|exact this) ZU.out))|(show (Addr.add _ _).block≠_;rw [Ql];exact Nat.ne_of_lt (Nat.lt_of_lt_of_le (by have:=World.block_lt_of_cell? _ _ ZB;first|rwa [Ql] at this|exact this) ZU.out))|(dsimp only;exact Nat.ne_of_lt (Nat.lt_of_lt_of_le (by have:=World.block_lt_of_cell? _ _ ZB;first|rwa [Ql] at this|exact this) ZU.out))) _).trans (((Qo (p:=⟨QW,_,none⟩) (by first|exact Nat.ne_of_lt (Nat.lt_of_lt_of_le (by have:=World.block_lt_of_cell? _ _ ZB;first|rwa [Ql] at this|exact this) ZU.out)|(rw [Ql];exact Nat.ne_of_lt (Nat.lt_of_lt_of_le (by have:=World.block_lt_of_cell? _ _ ZB;first|rwa [Ql] at this|exact this) ZU.out))|(show (Addr.add _ _).block≠_;rw [Ql];exact Nat.ne_of_lt (Nat.lt_of_lt_of_le (by have:=World.block_lt_of_cell? _ _ ZB;first|rwa [Ql] at this|exact this) ZU.out))|(dsimp only;exact Nat.ne_of_lt (Nat.lt_of_lt_of_le (by have:=World.block_lt_of_cell? _ _ ZB;first|rwa [Ql] at this|exact this) ZU.out))) _).trans (((Qo (p:=⟨QW,_,none⟩) (by first|exact Nat.ne_of_lt (Nat.lt_of_lt_of_le (by have:=World.block_lt_of_cell? _ _ ZB;first|rwa [Ql] at this|exact this) ZU.out)|(rw [Ql];exact Nat.ne_of_lt (Nat.lt_of_lt_of_le (by have:=World.block_lt_of_cell? _ _ ZB;first|rwa [Ql] at this|exact this) ZU.out))|(show (Addr.add _ _).block≠_;rw [Ql];exact Nat.ne_of_lt (Nat.lt_of_lt_of_le (by have:=World.block_lt_of_cell? _ _ ZB;first|rwa [Ql] at this|exact this) ZU.out))|(dsimp only;exact Nat.ne_of_lt (Nat.lt_of_lt_of_le (by have:=World.block_lt_of_cell? _ _ ZB;first|rwa [Ql] at this|exact this) ZU.out))) _).trans (((Qo (p:=⟨QW,_,none⟩) (by first|exact Nat.ne_of_lt (Nat.lt_of_lt_of_le (by have:=World.block_lt_of_cell? _ _ ZB;first|rwa [Ql] at this|exact this) ZU.out)|(rw [Ql];exact Nat.ne_of_lt (Nat.lt_of_lt_of_le (by have:=World.block_lt_of_cell? _ _ ZB;first|rwa [Ql] at this|exact this) ZU.out))|(show (Addr.add _ _).block≠_;rw [Ql];exact Nat.ne_of_lt (Nat.lt_of_lt_of_le (by have:=World.block_lt_of_cell? _ _ ZB;first|rwa [Ql] at this|exact this) ZU.out))|(dsimp only;exact Nat.ne_of_lt (Nat.lt_of_lt_of_le (by have:=World.block_lt_of_cell? _ _ ZB;first|rwa [Ql] at this|exact this) ZU.out))) _).trans (hHeld.2.2.2.2.2.2.2.2.2.2.2.1)))))))))))),((Qo (p:=⟨QW,_,none⟩) (by first|exact Nat.ne_of_lt (Nat.lt_of_lt_of_le (by have:=World.block_lt_of_cell? _ _ ZC;first|rwa [Ql] at this|exact this) ZU.out)|(rw [Ql];exact Nat.ne_of_lt (Nat.lt_of_lt_of_le (by have:=World.block_lt_of_cell? _ _ ZC;first|rwa [Ql] at this|exact this) ZU.out))|(show (Addr.add _ _).block≠_;rw [Ql];exact Nat.ne_of_lt (Nat.lt_of_lt_of_le (by have:=World.block_lt_of_cell? _ _ ZC;first|rwa [Ql] at this|exact this) ZU.out))|(dsimp only;exact Nat.ne_of_lt (Nat.lt_of_lt_of_le (by have:=World.block_lt_of_cell? _ _ ZC;first|rwa [Ql] at this|exact this) ZU.out))) _).trans (((Qo (p:=⟨QW,_,none⟩) (by first|exact Nat.ne_of_lt (Nat.lt_of_lt_of_le (by have:=World.block_lt_of_cell? _ _ ZC;first|rwa [Ql] at this|exact this) ZU.out)|(rw [Ql];exact Nat.ne_of_lt (Nat.lt_of_lt_of_le (by have:=World.block_lt_of_cell? _ _ ZC;first|rwa [Ql] at this|exact this) ZU.out))|(show (Addr.add _ _).block≠_;rw [Ql];exact Nat.ne_of_lt (Nat.lt_of_lt_of_le (by have:=World.block_lt_of_cell? _ _ ZC;first|rwa [Ql] at this|exact this) ZU.out))|(dsimp only;exact Nat.ne_of_lt (Nat.lt_of_lt_of_le (by have:=World.block_lt_of_cell? _ _ ZC;first|rwa [Ql] at this|exact this) ZU.out))) _).trans (((Qo (p:=⟨QW,_,none⟩) (by first|exact Nat.ne_of_lt (Nat.lt_of_lt_of_le (by have:=World.block_lt_of_cell? _ _ ZC;first|rwa [Ql] at this|exact this) ZU.out)|(rw [Ql];exact Nat.ne_of_lt (Nat.lt_of_lt_of_le (by have:=World.block_lt_of_cell? _ _ ZC;first|rwa [Ql] at this|exact this) ZU.out))|(show (Addr.add _ _).block≠_;rw [Ql];exact Nat.ne_of_lt (Nat.lt_of_lt_of_le (by have:=World.block_lt_of_cell? _ _ ZC;first|rwa [Ql] at this|exact this) ZU.out))|(dsimp only;exact Nat.ne_of_lt (Nat.lt_of_lt_of_le (by have:=World.block_lt_of_cell? _ _ ZC;first|rwa [Ql] at this|exact this) ZU.out))) _).trans (((Qo (p:=⟨QW,_,none⟩) (by first|exact Nat.ne_of_lt (Nat.lt_of_lt_of_le (by have:=World.block_lt_of_cell? _ _ ZC;first|rwa [Ql] at this|exact this) ZU.out)|(rw [Ql];exact Nat.ne_of_lt (Nat.lt_of_lt_of_le (by have:=World.block_lt_of_cell? _ _ ZC;first|rwa [Ql] at this|exact this) ZU.out))|(show (Addr.add _ _).block≠_;rw [Ql];exact Nat.ne_of_lt (Nat.lt_of_lt_of_le (by have:=World.block_lt_of_cell? _ _ ZC;first|rwa [Ql] at this|exact this) ZU.out))|(dsimp only;exact Nat.ne_of_lt (Nat.lt_of_lt_of_le (by have:=World.block_lt_of_cell? _ _ ZC;first|rwa [Ql] at this|exact this) ZU.out))) _).trans (((Qo (p:=⟨QW,_,none⟩) (by first|exact Nat.ne_of_lt (Nat.lt_of_lt_of_le (by have:=World.block_lt_of_cell? _ _ ZC;first|rwa [Ql] at this|exact this) ZU.out)|(rw [Ql];exact Nat.ne_of_lt (Nat.lt_of_lt_of_le (by have:=World.block_lt_of_cell? _ _ ZC;first|rwa [Ql] at this|exact this) ZU.out))|(show (Addr.add _ _).block≠_;rw [Ql];exact Nat.ne_of_lt (Nat.lt_of_lt_of_le (by have:=World.block_lt_of_cell? _ _ ZC;first|rwa [Ql] at this|exact this) ZU.out))|(dsimp only;exact Nat.ne_of_lt (Nat.lt_of_lt_of_le (by have:=World.block_lt_of_cell? _ _ ZC;first|rwa [Ql] at this|exact this) ZU.out))) _).trans (((Qo (p:=⟨QW,_,none⟩) (by first|exact Nat.ne_of_lt (Nat.lt_of_lt_of_le (by have:=World.block_lt_of_cell? _ _ ZC;first|rwa [Ql] at this|exact this) ZU.out)|(rw [Ql];exact Nat.ne_of_lt (Nat.lt_of_lt_of_le (by have:=World.block_lt_of_cell? _ _ ZC;first|rwa [Ql] at this|exact this) ZU.out))|(show (Addr.add _ _).block≠_;rw [Ql];exact Nat.ne_of_lt (Nat.lt_of_lt_of_le (by have:=World.block_lt_of_cell? _ _ ZC;first|rwa [Ql] at this|exact this) ZU.out))|(dsimp only;exact Nat.ne_of_lt (Nat.lt_of_lt_of_le (by have:=World.block_lt_of_cell? _ _ ZC;first|rwa [Ql] at this|exact this) ZU.out))) _).trans (hHeld.2.2.2.2.2.2.2.2.2.2.2.2))))))))))))⟩ (fun hHeld => ?_);clear hK K;refine Wu (KC HT_.out (by kernel_rfl)) ?_
               try go_wp2
               have n0_:Q1 (Kd.R (Kd.int .i64) 3 ((((((w50.setCell ⟨QW,0,none⟩ (.int .i64 OY)).setCell ⟨QW,1,none⟩ (.int .i64 t173)).setCell ⟨QW,2,none⟩ (.int .i64 UQ)).setCell ⟨QW,3,none⟩ (.int .i64 t175)).setCell ⟨QW,4,none⟩ (.int .i64 WH)).setCell ⟨QW,5,none⟩ (.int .i64 Xv)) w.heap.size (fun k_=>(w.heap.size≤k_)) u13 Ks):=⟨by (with_reducible repeat (first|apply Kd.R_alloc|apply Kd.R_drewN|apply Kd.R_drew));exact Kd.R_mono (Kd.R_far (p:=⟨QW,5,none⟩) (Kd.R_far (p:=⟨QW,4,none⟩) (Kd.R_far (p:=⟨QW,3,none⟩) (Kd.R_far (p:=⟨QW,2,none⟩) (Kd.R_far (p:=⟨QW,1,none⟩) (Kd.R_far (p:=⟨QW,0,none⟩) (Kd.R_types HO_13.out J0.out (by decide)) (fun _ hk=>hk.2) (.int .i64 OY)) (fun _ hk=>hk.2) (.int .i64 t173)) (fun _ hk=>hk.2) (.int .i64 UQ)) (fun _ hk=>hk.2) (.int .i64 t175)) (fun _ hk=>hk.2) (.int .i64 WH)) (fun _ hk=>hk.2) (.int .i64 Xv)) (fun _ hk=>hk.1)⟩;have n1_:Q1 (((((((w50.setCell ⟨QW,0,none⟩ (.int .i64 OY)).setCell ⟨QW,1,none⟩ (.int .i64 t173)).setCell ⟨QW,2,none⟩ (.int .i64 UQ)).setCell ⟨QW,3,none⟩ (.int .i64 t175)).setCell ⟨QW,4,none⟩ (.int .i64 WH)).setCell ⟨QW,5,none⟩ (.int .i64 Xv)).heap[Jk]? = some (.cells #[.slice Qy Qa.length Qr,.slice Qv Qe.length Qs,.slice Qz Qc.length Qt,.int .i64 QH,.int .i64 QG] 39 (0,0))):=⟨by (with_reducible repeat (first|refine Q5 ?_ _|refine Q9 ?_|refine Q4 ?_ _));refine Qp ?_ JJ.out _;(with_reducible repeat (first|refine Q5 ?_ _|refine Q9 ?_|refine Q4 ?_ _));refine Qp ?_ JJ.out _;(with_reducible repeat (first|refine Q5 ?_ _|refine Q9 ?_|refine Q4 ?_ _));refine Qp ?_ JJ.out _;(with_reducible repeat (first|refine Q5 ?_ _|refine Q9 ?_|refine Q4 ?_ _));refine Qp ?_ JJ.out _;(with_reducible repeat (first|refine Q5 ?_ _|refine Q9 ?_|refine Q4 ?_ _));refine Qp ?_ JJ.out _;(with_reducible repeat (first|refine Q5 ?_ _|refine Q9 ?_|refine Q4 ?_ _));refine Qp ?_ JJ.out _;(with_reducible repeat (first|refine Q5 ?_ _|refine Q9 ?_|refine Q4 ?_ _));exact Z5.out⟩;have n2_:Q1 (((((((w50.setCell ⟨QW,0,none⟩ (.int .i64 OY)).setCell ⟨QW,1,none⟩ (.int .i64 t173)).setCell ⟨QW,2,none⟩ (.int .i64 UQ)).setCell ⟨QW,3,none⟩ (.int .i64 t175)).setCell ⟨QW,4,none⟩ (.int .i64 WH)).setCell ⟨QW,5,none⟩ (.int .i64 Xv)).heap[Z7]? = some (.cells #[.slice Qy Qa.length Qr,.slice Qv Qe.length Qs,.slice Qz Qc.length Qt,.int .i64 QH,.int .i64 QG] 111 (0,0))):=⟨by (with_reducible repeat (first|refine Q5 ?_ _|refine Q9 ?_|refine Q4 ?_ _));refine Qp ?_ Yu.out _;(with_reducible repeat (first|refine Q5 ?_ _|refine Q9 ?_|refine Q4 ?_ _));refine Qp ?_ Yu.out _;(with_reducible repeat (first|refine Q5 ?_ _|refine Q9 ?_|refine Q4 ?_ _));refine Qp ?_ Yu.out _;(with_reducible repeat (first|refine Q5 ?_ _|refine Q9 ?_|refine Q4 ?_ _));refine Qp ?_ Yu.out _;(with_reducible repeat (first|refine Q5 ?_ _|refine Q9 ?_|refine Q4 ?_ _));refine Qp ?_ Yu.out _;(with_reducible repeat (first|refine Q5 ?_ _|refine Q9 ?_|refine Q4 ?_ _));refine Qp ?_ Yu.out _;(with_reducible repeat (first|refine Q5 ?_ _|refine Q9 ?_|refine Q4 ?_ _));exact Yg.out⟩;have n3_:Q1 (((((((w50.setCell ⟨QW,0,none⟩ (.int .i64 OY)).setCell ⟨QW,1,none⟩ (.int .i64 t173)).setCell ⟨QW,2,none⟩ (.int .i64 UQ)).setCell ⟨QW,3,none⟩ (.int .i64 t175)).setCell ⟨QW,4,none⟩ (.int .i64 WH)).setCell ⟨QW,5,none⟩ (.int .i64 Xv)).heap[YA]? = some (.cells #[.int .i64 ZG,.int .i64 Zy,.int .i64 Zw,.int .i64 Zs,.int .i64 Zp,.int .i64 Zj] 115 (0,0))):=⟨by (with_reducible repeat (first|refine Q5 ?_ _|refine Q9 ?_|refine Q4 ?_ _));refine Qp ?_ Yj.out _;(with_reducible repeat (first|refine Q5 ?_ _|refine Q9 ?_|refine Q4 ?_ _));refine Qp ?_ Yj.out _;(with_reducible repeat (first|refine Q5 ?_ _|refine Q9 ?_|refine Q4 ?_ _));refine Qp ?_ Yj.out _;(with_reducible repeat (first|refine Q5 ?_ _|refine Q9 ?_|refine Q4 ?_ _));refine Qp ?_ Yj.out _;(with_reducible repeat (first|refine Q5 ?_ _|refine Q9 ?_|refine Q4 ?_ _));refine Qp ?_ Yj.out _;(with_reducible repeat (first|refine Q5 ?_ _|refine Q9 ?_|refine Q4 ?_ _));refine Qp ?_ Yj.out _;(with_reducible repeat (first|refine Q5 ?_ _|refine Q9 ?_|refine Q4 ?_ _));exact YM.out⟩;have n4_:Q1 (((((((w50.setCell ⟨QW,0,none⟩ (.int .i64 OY)).setCell ⟨QW,1,none⟩ (.int .i64 t173)).setCell ⟨QW,2,none⟩ (.int .i64 UQ)).setCell ⟨QW,3,none⟩ (.int .i64 t175)).setCell ⟨QW,4,none⟩ (.int .i64 WH)).setCell ⟨QW,5,none⟩ (.int .i64 Xv)).heap[QW]? = some (.cells #[.int .i64 OY,.int .i64 t173,.int .i64 UQ,.int .i64 t175,.int .i64 WH,.int .i64 Xv] 115 (0,0))):=⟨by (with_reducible repeat (first|refine Q5 ?_ _|refine Q9 ?_|refine Q4 ?_ _));refine QM (cs:=#[.int .i64 OY,.int .i64 t173,.int .i64 UQ,.int .i64 t175,.int .i64 WH,.int .i64 0]) ?_ 5 _ rfl;(with_reducible repeat (first|refine Q5 ?_ _|refine Q9 ?_|refine Q4 ?_ _));refine QM (cs:=#[.int .i64 OY,.int .i64 t173,.int .i64 UQ,.int .i64 t175,.int .i64 0,.int .i64 0]) ?_ 4 _ rfl;(with_reducible repeat (first|refine Q5 ?_ _|refine Q9 ?_|refine Q4 ?_ _));refine QM (cs:=#[.int .i64 OY,.int .i64 t173,.int .i64 UQ,.int .i64 0,.int .i64 0,.int .i64 0]) ?_ 3 _ rfl;(with_reducible repeat (first|refine Q5 ?_ _|refine Q9 ?_|refine Q4 ?_ _));refine QM (cs:=#[.int .i64 OY,.int .i64 t173,.int .i64 0,.int .i64 0,.int .i64 0,.int .i64 0]) ?_ 2 _ rfl;(with_reducible repeat (first|refine Q5 ?_ _|refine Q9 ?_|refine Q4 ?_ _));refine QM (cs:=#[.int .i64 OY,.int .i64 0,.int .i64 0,.int .i64 0,.int .i64 0,.int .i64 0]) ?_ 1 _ rfl;(with_reducible repeat (first|refine Q5 ?_ _|refine Q9 ?_|refine Q4 ?_ _));refine QM (cs:=#[.int .i64 0,.int .i64 0,.int .i64 0,.int .i64 0,.int .i64 0,.int .i64 0]) ?_ 0 _ rfl;(with_reducible repeat (first|refine Q5 ?_ _|refine Q9 ?_|refine Q4 ?_ _));exact J0.out⟩;have n5_:Q1 (Below w.heap.size w ((((((w50.setCell ⟨QW,0,none⟩ (.int .i64 OY)).setCell ⟨QW,1,none⟩ (.int .i64 t173)).setCell ⟨QW,2,none⟩ (.int .i64 UQ)).setCell ⟨QW,3,none⟩ (.int .i64 t175)).setCell ⟨QW,4,none⟩ (.int .i64 WH)).setCell ⟨QW,5,none⟩ (.int .i64 Xv))):=⟨by repeat (first|(with_reducible first|exact HB.out|apply Q2|apply Q0|apply Q3|refine Q7 ?_ Jh.out|refine Q7 ?_ Jv.out|refine Q7 ?_ UM.out|refine Q7 ?_ qak.out)|exact HB.out)⟩
               (try clear HO_13)
               (try clear Z5)
               (try clear Yg)
               (try clear YM)
               (try clear J0)
               (try clear HB)
               generalize ((((((w50.setCell ⟨QW,0,none⟩ (.int .i64 OY)).setCell ⟨QW,1,none⟩ (.int .i64 t173)).setCell ⟨QW,2,none⟩ (.int .i64 UQ)).setCell ⟨QW,3,none⟩ (.int .i64 t175)).setCell ⟨QW,4,none⟩ (.int .i64 WH)).setCell ⟨QW,5,none⟩ (.int .i64 Xv))=w57 at n0_ n1_ n2_ n3_ n4_ n5_ ⊢
               have HO_13:=n0_;have Z5:=n1_;have Yg:=n2_;have YM:=n3_;have J0:=n4_;have HB:=n5_;clear n0_ n1_ n2_ n3_ n4_ n5_;have n0_:=Q1.mk (Kd.R_drew HO_13.out);have n1_:=Q1.mk (Q9 Z5.out);have n2_:=Q1.mk (Q9 Yg.out);have n3_:=Q1.mk (Q9 YM.out);have n4_:=Q1.mk (Q9 J0.out);have n5_:=Q1.mk (Q3 HB.out);clear HO_13 Z5 Yg YM J0 HB;have HO_13:=n0_;have Z5:=n1_;have Yg:=n2_;have YM:=n3_;have J0:=n4_;have HB:=n5_;clear n0_ n1_ n2_ n3_ n4_ n5_;refine OO (n:=7) (S:=fun w'=>w'.cell? ⟨QW,0,none⟩=some (.int .i64 OY)∧w'.cell? ⟨QW,1,none⟩=some (.int .i64 t173)∧w'.cell? ⟨QW,2,none⟩=some (.int .i64 UQ)∧w'.cell? ⟨QW,3,none⟩=some (.int .i64 t175)∧w'.cell? ⟨QW,4,none⟩=some (.int .i64 WH)∧w'.cell? ⟨QW,5,none⟩=some (.int .i64 Xv)) (ds:=[]) #[false,false,false,false,false,false,false] (by kernel_rfl) rfl rfl ⟨(Q6 J0.out 0).trans rfl,(Q6 J0.out 1).trans rfl,(Q6 J0.out 2).trans rfl,(Q6 J0.out 3).trans rfl,(Q6 J0.out 4).trans rfl,(Q6 J0.out 5).trans rfl⟩ (fun hHeld => ?_)
               generalize w57.drew=w58 at HO_13 Z5 Yg YM J0 HB hHeld ⊢
               refine Y2 (i:=0) (N:=some 78) (v:=?_) (a':=?_) #[true,false,false,false,false,false,false] rfl rfl (by kernel_rfl) (fun _ _ _ h=>h) (Or.inl ⟨by rfl,?_⟩) ?_ ?_
               rotate_left
               ·
                intro w'
                go_simp
                with_reducible rfl
               rotate_left
               ·
                simp only [Act.put,List.setIfInBounds_toArray,List.set_cons_zero,List.set_cons_succ,QC,QD]
                rfl
               refine Y2 (i:=1) (N:=some 79) (v:=?_) (a':=?_) #[true,true,false,false,false,false,false] rfl rfl (by kernel_rfl) (fun _ _ _ h=>h) (Or.inl ⟨by rfl,?_⟩) ?_ ?_
               rotate_left
               ·
                intro w'
                go_simp
                with_reducible rfl
               rotate_left
               ·
                simp only [Act.put,List.setIfInBounds_toArray,List.set_cons_zero,List.set_cons_succ,QC,QD]
                rfl
               refine J8 (i:=4) (N:=some 82) (v:=?_) (a':=?_) #[true,true,false,false,true,false,false] rfl rfl (by kernel_rfl) (fun _ _ _ h=>h) (Or.inl ⟨by rfl,?_⟩) hHeld ?_ ?_
               rotate_left
               ·
                rintro w' ⟨s0,s1,s2,s3,s4,s5⟩
                go_simp
                with_reducible rfl
               rotate_left
               ·
                simp only [Act.put,List.setIfInBounds_toArray,List.set_cons_zero,List.set_cons_succ,QC,QD]
                rfl
               refine one_ (i:=2) (N:=some 80) #[true,true,true,false,true,false,false] rfl rfl (by kernel_rfl) (by decide) (fun K hK => ?_);refine qk0 (w1:=?_) (v:=?_) (by rfl) rfl ?_ ?_
               rotate_left 2
               ·
                go_simp
                constructor
                ·
                 rfl
                rfl
               refine hK.out _ _ ⟨(Q6 (Q4 J0.out _) 0).trans rfl,(Q6 (Q4 J0.out _) 1).trans rfl,(Q6 (Q4 J0.out _) 2).trans rfl,(Q6 (Q4 J0.out _) 3).trans rfl,(Q6 (Q4 J0.out _) 4).trans rfl,(Q6 (Q4 J0.out _) 5).trans rfl⟩ (fun hHeld => ?_);clear hK K;refine GA (a':=?_) ?_ ?_
               rotate_left
               ·
                show Act.put _ (some 80) _=_
                simp only [Act.put,List.setIfInBounds_toArray,List.set_cons_zero,List.set_cons_succ,QC,QD]
                rfl
               refine one_ (i:=3) (N:=some 81) #[true,true,true,true,true,false,false] rfl rfl (by kernel_rfl) (by decide) (fun K hK => ?_);refine Kd.R_append_step (Kd.int .i64) (w0:=w) w.heap.size (by rfl) (.tmp 78) (.tmp 80) 37 3 (.int .i64 0) 8 rfl Try.underlying37 qan rfl (by decide) (by omega) u13 Ks t171 [.int .i64 t171] (fun k_=>(w.heap.size≤k_)) (fun _=>False) rfl rfl ?aP (fun _ hk=>hk.elim) ?aF ?aO ?aB ?aS ?aL ?_
               (case aP=>exact rfl)
               (case aB=>exact (by repeat (first|(with_reducible first|exact HB.out|apply Q2|apply Q0|apply Q3|refine Q7 ?_ Jh.out|refine Q7 ?_ Jv.out|refine Q7 ?_ UM.out|refine Q7 ?_ qak.out)|exact HB.out)))
               (case aF=>exact (fun k_ hk=>(Nat.le_trans (Qf (by repeat (first|(with_reducible first|exact HB.out|apply Q2|apply Q0|apply Q3|refine Q7 ?_ Jh.out|refine Q7 ?_ Jv.out|refine Q7 ?_ UM.out|refine Q7 ?_ qak.out)|exact HB.out))) hk)))
               (case aO=>exact (by (with_reducible repeat (first|apply Kd.R_alloc|apply Kd.R_drewN|apply Kd.R_drew));exact HO_13.out))
               (case aS=>exact (Qf (by repeat (first|(with_reducible first|exact HB.out|apply Q2|apply Q0|apply Q3|refine Q7 ?_ Jh.out|refine Q7 ?_ Jv.out|refine Q7 ?_ UM.out|refine Q7 ?_ qak.out)|exact HB.out))))
               (case aL=>have:=qwR.out;omega)
               intro qKq w59 ho hb hg hat;rw [← qwS.out] at ho;have n0_:=Q1.mk (Jy (g:=Jk) (by (with_reducible repeat (first|refine Q5 ?_ _|refine Q9 ?_|refine Q4 ?_ _));exact Z5.out) hg (Kd.R_ne HO_13.out Z5.out (by decide)));have n1_:=Q1.mk (Jy (g:=Z7) (by (with_reducible repeat (first|refine Q5 ?_ _|refine Q9 ?_|refine Q4 ?_ _));exact Yg.out) hg (Kd.R_ne HO_13.out Yg.out (by decide)));have n2_:=Q1.mk (Jy (g:=YA) (by (with_reducible repeat (first|refine Q5 ?_ _|refine Q9 ?_|refine Q4 ?_ _));exact YM.out) hg (Kd.R_ne HO_13.out YM.out (by decide)));have n3_:=Q1.mk (Jy (g:=QW) (by (with_reducible repeat (first|refine Q5 ?_ _|refine Q9 ?_|refine Q4 ?_ _));exact J0.out) hg (Kd.R_ne HO_13.out J0.out (by decide)));have n4_:=Q1.mk (hb);have n5_:=Q1.mk (ho);clear Z5 Yg YM J0 HB HO_13;have Z5:=n0_;have Yg:=n1_;have YM:=n2_;have J0:=n3_;have HB:=n4_;have qwD:=n5_;clear n0_ n1_ n2_ n3_ n4_ n5_ ho hb hg hat;refine hK.out _ _ ⟨(Q6 J0.out 0).trans rfl,(Q6 J0.out 1).trans rfl,(Q6 J0.out 2).trans rfl,(Q6 J0.out 3).trans rfl,(Q6 J0.out 4).trans rfl,(Q6 J0.out 5).trans rfl⟩ (fun hHeld => ?_);clear hK K;refine GA (a':=?_) ?_ ?_
               rotate_left
               ·
                show Act.put _ (some 81) _=_
                simp only [Act.put,List.setIfInBounds_toArray,List.set_cons_zero,List.set_cons_succ,QC,QD]
                rfl
               refine Y2 (i:=5) (N:=some 13) (v:=?_) (a':=?_) #[true,true,true,true,true,true,false] rfl rfl (by kernel_rfl) (fun _ _ _ h=>h) (Or.inl ⟨by rfl,?_⟩) ?_ ?_
               rotate_left
               ·
                intro w'
                go_simp
                with_reducible rfl
               rotate_left
               ·
                simp only [Act.put,List.setIfInBounds_toArray,List.set_cons_zero,List.set_cons_succ,QC,QD]
                rfl
               refine one_ (i:=6) (N:=none) #[true,true,true,true,true,true,true] rfl rfl (by kernel_rfl) (by decide) (fun K hK => ?_);have qKa:w59.cell? ⟨YA,0,none⟩=some (.int .i64 ZG):=(Q6 YM.out 0).trans rfl;have qHV:=Q8 YM.out 0;have qEQ:=Jb.out;have qER:=Jc.out;have qES:=Yo.out;have qD4:=Uk.out;have qD5:=Ul.out;have qD6:=Yj.out;have qKb:w59.cell? ⟨YA,1,none⟩=some (.int .i64 Zy):=(Q6 YM.out 1).trans rfl;have qHW:=Q8 YM.out 1;have qET:=Jb.out;have qEU:=Jc.out;have qEV:=Yo.out;have qD7:=Uk.out;have qD8:=Ul.out;have qD9:=Yj.out;have qKc:w59.cell? ⟨YA,2,none⟩=some (.int .i64 Zw):=(Q6 YM.out 2).trans rfl;have qHX:=Q8 YM.out 2;have qEW:=Jb.out;have qEX:=Jc.out;have qEY:=Yo.out;have qEa:=Uk.out;have qEb:=Ul.out;have qEc:=Yj.out;have qKd:w59.cell? ⟨YA,3,none⟩=some (.int .i64 Zs):=(Q6 YM.out 3).trans rfl;have qHY:=Q8 YM.out 3;have qEZ:=Jb.out;have qE0:=Jc.out;have qE1:=Yo.out;have qEd:=Uk.out;have qEe:=Ul.out;have qEf:=Yj.out;have qKe:w59.cell? ⟨YA,4,none⟩=some (.int .i64 Zp):=(Q6 YM.out 4).trans rfl;have qHZ:=Q8 YM.out 4;have qE2:=Jb.out;have qE3:=Jc.out;have qE4:=Yo.out;have qEg:=Uk.out;have qEh:=Ul.out;have qEi:=Yj.out;have qKf:w59.cell? ⟨YA,5,none⟩=some (.int .i64 Zj):=(Q6 YM.out 5).trans rfl;have qH0:=Q8 YM.out 5;have qE5:=Jb.out;have qE6:=Jc.out;have qE7:=Yo.out;have qEj:=Uk.out;have qEk:=Ul.out;have qEl:=Yj.out;refine qmU (w1:=?_) (by rfl) rfl ?_ ?_
               rotate_left
               ·
                go_simp
                rfl
               refine hK.out _ _ ⟨((Qo (p:=⟨YA,_,none⟩) Yo.out _).trans (((Qo (p:=⟨YA,_,none⟩) Yo.out _).trans (((Qo (p:=⟨YA,_,none⟩) Yo.out _).trans (((Qo (p:=⟨YA,_,none⟩) Yo.out _).trans (((Qo (p:=⟨YA,_,none⟩) Yo.out _).trans (((Qo (p:=⟨YA,_,none⟩) Yo.out _).trans (hHeld.1)))))))))))),((Qo (p:=⟨YA,_,none⟩) Yo.out _).trans (((Qo (p:=⟨YA,_,none⟩) Yo.out _).trans (((Qo (p:=⟨YA,_,none⟩) Yo.out _).trans (((Qo (p:=⟨YA,_,none⟩) Yo.out _).trans (((Qo (p:=⟨YA,_,none⟩) Yo.out _).trans (((Qo (p:=⟨YA,_,none⟩) Yo.out _).trans (hHeld.2.1)))))))))))),((Qo (p:=⟨YA,_,none⟩) Yo.out _).trans (((Qo (p:=⟨YA,_,none⟩) Yo.out _).trans (((Qo (p:=⟨YA,_,none⟩) Yo.out _).trans (((Qo (p:=⟨YA,_,none⟩) Yo.out _).trans (((Qo (p:=⟨YA,_,none⟩) Yo.out _).trans (((Qo (p:=⟨YA,_,none⟩) Yo.out _).trans (hHeld.2.2.1)))))))))))),((Qo (p:=⟨YA,_,none⟩) Yo.out _).trans (((Qo (p:=⟨YA,_,none⟩) Yo.out _).trans (((Qo (p:=⟨YA,_,none⟩) Yo.out _).trans (((Qo (p:=⟨YA,_,none⟩) Yo.out _).trans (((Qo (p:=⟨YA,_,none⟩) Yo.out _).trans (((Qo (p:=⟨YA,_,none⟩) Yo.out _).trans (hHeld.2.2.2.1)))))))))))),((Qo (p:=⟨YA,_,none⟩) Yo.out _).trans (((Qo (p:=⟨YA,_,none⟩) Yo.out _).trans (((Qo (p:=⟨YA,_,none⟩) Yo.out _).trans (((Qo (p:=⟨YA,_,none⟩) Yo.out _).trans (((Qo (p:=⟨YA,_,none⟩) Yo.out _).trans (((Qo (p:=⟨YA,_,none⟩) Yo.out _).trans (hHeld.2.2.2.2.1)))))))))))),((Qo (p:=⟨YA,_,none⟩) Yo.out _).trans (((Qo (p:=⟨YA,_,none⟩) Yo.out _).trans (((Qo (p:=⟨YA,_,none⟩) Yo.out _).trans (((Qo (p:=⟨YA,_,none⟩) Yo.out _).trans (((Qo (p:=⟨YA,_,none⟩) Yo.out _).trans (((Qo (p:=⟨YA,_,none⟩) Yo.out _).trans (hHeld.2.2.2.2.2))))))))))))⟩ (fun hHeld => ?_);clear hK K;refine Wu (by kernel_rfl) ?_
               try go_wp2
               go_roundg k4
               case measure=>have:=HJ3.out;have:=HK2.out;have:=X8.out;have:=HK4.out;omega
               case rel=>exact ⟨(qzF),(wrap64 (JE+1)),(OY),(t173),(UQ),(t175),(WH),(Xv),(by first|rfl|(simp;done)|(simp [*];done)),H',⟨by have:=HJ3.out;have:=HK2.out;have:=X8.out;have:=HK4.out;omega⟩,⟨by (with_reducible repeat (first|apply Kd.R_alloc|apply Kd.R_drewN|apply Kd.R_drew));exact Kd.R_mono (Kd.R_far (p:=⟨YA,5,none⟩) (Kd.R_far (p:=⟨YA,4,none⟩) (Kd.R_far (p:=⟨YA,3,none⟩) (Kd.R_far (p:=⟨YA,2,none⟩) (Kd.R_far (p:=⟨YA,1,none⟩) (Kd.R_far (p:=⟨YA,0,none⟩) (Kd.R_types qwD.out YM.out (by decide)) (fun _ hk=>hk.2) (.int .i64 OY)) (fun _ hk=>hk.2) (.int .i64 t173)) (fun _ hk=>hk.2) (.int .i64 UQ)) (fun _ hk=>hk.2) (.int .i64 t175)) (fun _ hk=>hk.2) (.int .i64 WH)) (fun _ hk=>hk.2) (.int .i64 Xv)) (fun _ hk=>hk.1)⟩,⟨by (with_reducible repeat (first|refine Q5 ?_ _|refine Q9 ?_|refine Q4 ?_ _));refine Qp ?_ Jb.out _;(with_reducible repeat (first|refine Q5 ?_ _|refine Q9 ?_|refine Q4 ?_ _));refine Qp ?_ Jb.out _;(with_reducible repeat (first|refine Q5 ?_ _|refine Q9 ?_|refine Q4 ?_ _));refine Qp ?_ Jb.out _;(with_reducible repeat (first|refine Q5 ?_ _|refine Q9 ?_|refine Q4 ?_ _));refine Qp ?_ Jb.out _;(with_reducible repeat (first|refine Q5 ?_ _|refine Q9 ?_|refine Q4 ?_ _));refine Qp ?_ Jb.out _;(with_reducible repeat (first|refine Q5 ?_ _|refine Q9 ?_|refine Q4 ?_ _));refine Qp ?_ Jb.out _;(with_reducible repeat (first|refine Q5 ?_ _|refine Q9 ?_|refine Q4 ?_ _));exact Z5.out⟩,⟨by (with_reducible repeat (first|refine Q5 ?_ _|refine Q9 ?_|refine Q4 ?_ _));refine Qp ?_ Jc.out _;(with_reducible repeat (first|refine Q5 ?_ _|refine Q9 ?_|refine Q4 ?_ _));refine Qp ?_ Jc.out _;(with_reducible repeat (first|refine Q5 ?_ _|refine Q9 ?_|refine Q4 ?_ _));refine Qp ?_ Jc.out _;(with_reducible repeat (first|refine Q5 ?_ _|refine Q9 ?_|refine Q4 ?_ _));refine Qp ?_ Jc.out _;(with_reducible repeat (first|refine Q5 ?_ _|refine Q9 ?_|refine Q4 ?_ _));refine Qp ?_ Jc.out _;(with_reducible repeat (first|refine Q5 ?_ _|refine Q9 ?_|refine Q4 ?_ _));refine Qp ?_ Jc.out _;(with_reducible repeat (first|refine Q5 ?_ _|refine Q9 ?_|refine Q4 ?_ _));exact Yg.out⟩,⟨by (with_reducible repeat (first|refine Q5 ?_ _|refine Q9 ?_|refine Q4 ?_ _));refine QM (cs:=#[.int .i64 OY,.int .i64 t173,.int .i64 UQ,.int .i64 t175,.int .i64 WH,.int .i64 Zj]) ?_ 5 _ rfl;(with_reducible repeat (first|refine Q5 ?_ _|refine Q9 ?_|refine Q4 ?_ _));refine QM (cs:=#[.int .i64 OY,.int .i64 t173,.int .i64 UQ,.int .i64 t175,.int .i64 Zp,.int .i64 Zj]) ?_ 4 _ rfl;(with_reducible repeat (first|refine Q5 ?_ _|refine Q9 ?_|refine Q4 ?_ _));refine QM (cs:=#[.int .i64 OY,.int .i64 t173,.int .i64 UQ,.int .i64 Zs,.int .i64 Zp,.int .i64 Zj]) ?_ 3 _ rfl;(with_reducible repeat (first|refine Q5 ?_ _|refine Q9 ?_|refine Q4 ?_ _));refine QM (cs:=#[.int .i64 OY,.int .i64 t173,.int .i64 Zw,.int .i64 Zs,.int .i64 Zp,.int .i64 Zj]) ?_ 2 _ rfl;(with_reducible repeat (first|refine Q5 ?_ _|refine Q9 ?_|refine Q4 ?_ _));refine QM (cs:=#[.int .i64 OY,.int .i64 Zy,.int .i64 Zw,.int .i64 Zs,.int .i64 Zp,.int .i64 Zj]) ?_ 1 _ rfl;(with_reducible repeat (first|refine Q5 ?_ _|refine Q9 ?_|refine Q4 ?_ _));refine QM (cs:=#[.int .i64 ZG,.int .i64 Zy,.int .i64 Zw,.int .i64 Zs,.int .i64 Zp,.int .i64 Zj]) ?_ 0 _ rfl;(with_reducible repeat (first|refine Q5 ?_ _|refine Q9 ?_|refine Q4 ?_ _));exact YM.out⟩,⟨by repeat (first|(with_reducible first|exact HB.out|apply Q2|apply Q0|apply Q3|refine Q7 ?_ Jh.out|refine Q7 ?_ Jv.out|refine Q7 ?_ UM.out|refine Q7 ?_ qak.out)|exact HB.out)⟩⟩
              rw [if_neg c46] at H
              exact absurd H (by simp)
             rw [if_neg c44] at H
             exact absurd H (by simp)
            rw [if_neg c43] at H
            exact absurd H (by simp)
           rw [if_neg c42] at H
           exact absurd H (by simp)
          rw [if_neg c41] at H;have c41b0:decide (JE<(l1.length:Int))=false:=decide_eq_false c41;clear c41
          by_cases c66:0≤(Ks.length:Int)
          ·
           rw [if_pos c66] at H;have c66b0:=eq_true c66;have c66b1:decide (0≤(Ks.length:Int))=true:=decide_eq_true c66;clear c66
           by_cases c67:(Ks.length:Int)≤(Ks.length:Int)
           ·
            rw [if_pos c67] at H;have c67b0:=eq_true c67;have c67b1:decide ((Ks.length:Int)≤(Ks.length:Int))=true:=decide_eq_true c67;clear c67;obtain ⟨qv9,qik⟩:∃ y_:List Int,y_=(Ks.take ((Ks.length:Int):Int).toNat):=⟨_,rfl⟩
            replace H:(some (qv9,0))=some (r1,r2):=by first|(rw [qik];with_reducible exact H)|(have H2_:=(Option.bind_some _ _).symm.trans H;rw [qik];with_reducible exact H2_)|(have H2_:=(Option.bind_some _ _).symm.trans H;with_reducible exact H2_)|with_reducible exact H|(rw [qik];exact H)|exact H
            have qtf:=Q1.mk qik;clear qik;simp only [Option.some.injEq,Prod.mk.injEq] at H;obtain ⟨rfl,rfl⟩:=H;obtain ⟨qFi,qFA,qF8⟩:=Kd.R_slice HO_13.out;subst qF8;have q69:((Ks.length:Int):Int)≤((Ks.length:Int):Int):=of_decide_eq_true (by first|(with_reducible assumption)|assumption);obtain ⟨qKm,qtP,_,qzi,_⟩:=info_parts qan;have qGg:=Xr (P:=Try.prog) 37 3 Try.underlying37 qtP qFi Ks.length qFA (Kd.R_reads' HO_13.out).2.1;have qvh:=Kd.R_take (m:=((Ks.length:Int):Int).toNat) HO_13.out (by omega);have qzn:qv9.length=((Ks.length:Int):Int).toNat:=(by rw [qtf.out,List.length_take];omega);rw [← qtf.out] at qvh
            have qzo:Ks.length=qv9.length:=by rw [qzn];omega
            have qFr:=Q1.mk qzo;clear qzn qzo qtP qzi HO_13;have qwE:=Q1.mk qvh;clear qvh;replace q69:=eq_true q69
            go_wp2
            go_ret2
            exact ⟨_,by first|rfl|(simp [Qw,Qx]<;>rfl)|(simp [*,Qw,Qx]<;>rfl),qow (by (with_reducible repeat (first|apply Kd.R_alloc|apply Kd.R_drewN|apply Kd.R_drew));exact qwE.out) _ qFr.out,by repeat (first|(with_reducible first|exact HB.out|apply Q2|apply Q0|apply Q3|refine Q7 ?_ Jh.out|refine Q7 ?_ Jv.out|refine Q7 ?_ UM.out)|exact HB.out)⟩
           rw [if_neg c67] at H
           exact absurd H (by simp)
          rw [if_neg c66] at H
          exact absurd H (by simp)
       replace c32:=Bool.eq_false_iff.mpr c32;subst c32
       have H1:(some (([]:List Int),92))=some (r1,r2):=by rw [if_neg (show ¬ (false=true) by decide)] at H;exact H
       clear H;have H:=H1;clear H1;simp only [Option.some.injEq,Prod.mk.injEq] at H;obtain ⟨rfl,rfl⟩:=H
       go_wp2
       go_ret2
       exact ⟨_,by first|rfl|(simp [Qw,Qx]<;>rfl)|(simp [*,Qw,Qx]<;>rfl),(by first|exact Kd.V_nil _ _ _ _ _|(show Kd.V _ _ _ _ _ (.slice none 0 0) [];exact Kd.V_nil _ _ _ _ _)),by repeat (first|(with_reducible first|exact HB.out|apply Q2|apply Q0|apply Q3|refine Q7 ?_ Jh.out|refine Q7 ?_ Jv.out)|exact HB.out)⟩
end
section
attribute [local go_sem] YC YE Z2 Z3 Yr Ys YD YF
def Zi.l0:Nat→List Int→List Int→Int→Option (Bool)
 | 0,_,_,_=>none
 | k+1,x0,x1,x5=>if x5<(x0.length:Int) then (if 0≤x5 then (if x5<(x1.length:Int) then (if (rd x0 x5)=(rd x1 x5) then (Zi.l0 k x0 x1 (wrap64 (x5+1))) else (some false)) else (none)) else (none)) else (some true)
def Zi.f (k:Nat) (l0:List Int) (l1:List Int):Option (Bool):=if (l0.length:Int)=(l1.length:Int) then (Zi.l0 k l0 l1 0) else (some false)
set_option maxHeartbeats 8000000 in
set_option maxRecDepth 100000 in
theorem Zi.calls (k:Nat) (A0:Option Addr) (c0:Nat) (l0:List Int) (A1:Option Addr) (c1:Nat) (l1:List Int) (r:Bool) (w:World) (hr0:Kd.C (Kd.int .i64) w A0 l0.length l0) (hc0:l0.length≤c0) (hr1:Kd.C (Kd.int .i64) w A1 l1.length l1) (hc1:l1.length≤c1) (h:Zi.f k l0 l1=some r) :
  Calls Try.prog 27 #[.slice A0 l0.length c0,.slice A1 l1.length c1] w fun e w'=>e = .returned (.bool r)∧Yz w w':=by
 have HR0:=Q1.mk hr0
 have HC0:=Q1.mk hc0
 clear hr0 hc0
 have HR1:=Q1.mk hr1
 have HC1:=Q1.mk hc1
 clear hr1 hc1
 have H:(if (l0.length:Int)=(l1.length:Int) then (Zi.l0 k l0 l1 0) else (some false))=some r:=h
 clear h
 by_cases c3:(l0.length:Int)=(l1.length:Int)
 ·
  rw [if_pos c3] at H
  have c3b0:((l0.length:Int)==(l1.length:Int))=true:=beq_iff_eq.mpr c3
  have c3b1:((l0.length:Int) != (l1.length:Int))=false:=bne_eq_false_iff_eq.mpr c3
  have c3b2:(l0.length==l1.length)=true:=by first|simpa using c3|(simp at c3 ⊢;omega)
  clear c3
  have H':=Q1.mk H
  clear H
  go_enter Try.func27,Try.ntmps27
  go_wp2
  repeat (go_quiet (fail);try go_wp2)
  go_loopg [5] k (fun kq v5 w' => ∃ (ZT:Int),v5 = .int .i64 ZT∧Q1 (Zi.l0 kq l0 l1 ZT=some r)∧Q1 (kq≤k)∧Yz w w')
  case atStart=>exact ⟨(0),(by first|rfl|(simp;done)|(simp [*];done)),H',⟨Nat.le_refl _⟩,by repeat (first|exact Yz.refl _|apply Yz.step)⟩
  case round =>
   clear H'
   try clear c1
   try clear c2
   try clear p2
   try clear c3
   try clear c3b0
   try clear c3b1
   try clear c3b2
   obtain ⟨ZT,rfl,HA,HK1,⟨m1,rfl⟩⟩:=hrel
   cases gk with
   | zero=>exact absurd HA.out (by simp [Zi.l0])
   | succ k1 =>
    have H:=HA.out;clear HA;simp only [Zi.l0] at H
    by_cases c4:ZT<(l0.length:Int)
    ·
     rw [if_pos c4] at H;have c4b0:decide (ZT<(l0.length:Int))=true:=decide_eq_true c4;clear c4
     by_cases c5:0≤ZT
     ·
      rw [if_pos c5] at H;have c5b0:decide (0≤ZT)=true:=decide_eq_true c5;clear c5
      by_cases c6:ZT<(l1.length:Int)
      ·
       rw [if_pos c6] at H;have c6b0:decide (ZT<(l1.length:Int))=true:=decide_eq_true c6;clear c6
       by_cases c7:(rd l0 ZT)=(rd l1 ZT)
       ·
        rw [if_pos c7] at H;have c7b0:((rd l0 ZT)==(rd l1 ZT))=true:=beq_iff_eq.mpr c7;have c7b1:((rd l0 ZT) != (rd l1 ZT))=false:=bne_eq_false_iff_eq.mpr c7;clear c7;have H':=Q1.mk H;clear H;have qki:0≤(ZT:Int):=of_decide_eq_true (by first|(with_reducible assumption)|assumption);have qkA:ZT<(l0.length:Int):=of_decide_eq_true (by first|(with_reducible assumption)|assumption);obtain ⟨qw7,e185,qr5⟩:=Kd.at_int HR0.out ZT qki qkA;cases e185;replace qki:=eq_true qki;replace qkA:=eq_true qkA;have qkj:0≤(ZT:Int):=of_decide_eq_true (by first|(with_reducible assumption)|assumption);have qkB:ZT<(l1.length:Int):=of_decide_eq_true (by first|(with_reducible assumption)|assumption);obtain ⟨qw8,quN,qr6⟩:=Kd.at_int HR1.out ZT qkj qkB;cases quN;replace qkj:=eq_true qkj;replace qkB:=eq_true qkB
        go_wp2
        repeat (go_quiet (fail);try go_wp2)
        go_roundg k1
        case measure=>have:=HK1.out;omega
        case rel=>exact ⟨(wrap64 (ZT+1)),(by first|rfl|(simp;done)|(simp [*];done)),H',⟨by have:=HK1.out;omega⟩,by repeat (first|exact Yz.refl _|apply Yz.step)⟩
       rw [if_neg c7] at H;have c7b0:((rd l0 ZT)==(rd l1 ZT))=false:=beq_eq_false_iff_ne.mpr c7;have c7b1:((rd l0 ZT) != (rd l1 ZT))=true:=bne_iff_ne.mpr c7;obtain rfl:=Option.some.inj H;have qki:0≤(ZT:Int):=of_decide_eq_true (by first|(with_reducible assumption)|assumption);have qkA:ZT<(l0.length:Int):=of_decide_eq_true (by first|(with_reducible assumption)|assumption);obtain ⟨qw7,e185,qr5⟩:=Kd.at_int HR0.out ZT qki qkA;cases e185;replace qki:=eq_true qki;replace qkA:=eq_true qkA;have qkj:0≤(ZT:Int):=of_decide_eq_true (by first|(with_reducible assumption)|assumption);have qkB:ZT<(l1.length:Int):=of_decide_eq_true (by first|(with_reducible assumption)|assumption);obtain ⟨qw8,quN,qr6⟩:=Kd.at_int HR1.out ZT qkj qkB;cases quN;replace qkj:=eq_true qkj;replace qkB:=eq_true qkB
       go_wp2
       repeat (go_quiet (fail);try go_wp2)
       go_ret
       exact ⟨by first|rfl|(simp;done)|(simp [*];done),by repeat (first|exact Yz.refl _|apply Yz.step)⟩
      rw [if_neg c6] at H
      exact absurd H (by simp)
     rw [if_neg c5] at H
     exact absurd H (by simp)
    rw [if_neg c4] at H;have c4b0:decide (ZT<(l0.length:Int))=false:=decide_eq_false c4;clear c4;obtain rfl:=Option.some.inj H
    go_wp2
    repeat (go_quiet (fail);try go_wp2)
    go_ret
    exact ⟨by first|rfl|(simp;done)|(simp [*];done),by repeat (first|exact Yz.refl _|apply Yz.step)⟩
 rw [if_neg c3] at H
 have c3b0:((l0.length:Int)==(l1.length:Int))=false:=beq_eq_false_iff_ne.mpr c3
 have c3b1:((l0.length:Int) != (l1.length:Int))=true:=bne_iff_ne.mpr c3
 have c3b2:(l0.length==l1.length)=false:=by first|simpa using c3|(simp at c3 ⊢;omega)
 obtain rfl:=Option.some.inj H
 go_enter Try.func27,Try.ntmps27
 go_wp2
 repeat (go_quiet (fail);try go_wp2)
 go_ret
 exact ⟨by first|rfl|(simp;done)|(simp [*];done),by repeat (first|exact Yz.refl _|apply Yz.step)⟩
end
section
attribute [local go_sem] YC YE Z2 Z3 Yr Ys YD YF
def QQ.f (a0:Int) (a1:Int):Option (Int × Int):=some (a0,a1)
set_option maxHeartbeats 8000000 in
set_option maxRecDepth 100000 in
theorem QQ.calls (a0:Int) (a1:Int) (r1:Int) (r2:Int) (w:World) (h:QQ.f a0 a1=some (r1,r2)) :
  Calls Try.prog 43 #[.int .i64 a0,.int .i64 a1] w fun e w'=>e = .returned (.agg #[.int .i64 r1,.int .i64 r2])∧Below w.heap.size w w':=by
 have qdL:=Try.underlying25
 have HB:=Q1.mk (Below.refl w.heap.size w)
 have H:(some (a0,a1))=some (r1,r2):=h
 clear h
 simp only [Option.some.injEq,Prod.mk.injEq] at H
 obtain ⟨rfl,rfl⟩:=H
 go_enter Try.func43,Try.ntmps43
 go_wp2_with (first|((with_reducible refine QR (N:=4) rfl ?_);refine Yf ?hg (N:=4) ?hd (cs:=#[.int .i64 0,.int .i64 0]) (t:=25) ?hr ?_;(case hd=>rfl);(case hg=>rfl);(case hr=>first|(go_simp;done)|(go_simp;rfl));intro qif hg w3 hbox hb;have n0_:=Q1.mk (Qi (by repeat (first|(with_reducible first|exact HB.out|apply Q2|apply Q0|apply Q3)|exact HB.out)) hb);have n1_:=Q1.mk (hbox);have n2_:=Q1.mk ((by rw [hg];exact (Qf (by repeat (first|(with_reducible first|exact HB.out|apply Q2|apply Q0|apply Q3)|exact HB.out))):w.heap.size≤qif));have n3_:=n2_;clear HB;have HB:=n0_;have qhR:=n1_;have qHf:=n2_;have qww:=n3_;clear n0_ n1_ n2_ n3_ hb hbox hg;have GV:w3.cell? ⟨qif,0,none⟩=some (.int .i64 0):=(Q6 qhR.out 0).trans rfl;have GX:w3.cell? ⟨qif,1,none⟩=some (.int .i64 0):=(Q6 qhR.out 1).trans rfl;have GY:=Q8 qhR.out 0;have GZ:=Q8 qhR.out 1))
 refine bodyPost_ret (results_cell_row rfl _ _ qif 25 #[.int .i64 a0,.int .i64 a1] (0,0) _ rfl (by (with_reducible repeat (first|refine Q5 ?_ _|refine Q9 ?_|refine Q4 ?_ _));refine QM (cs:=#[.int .i64 a0,.int .i64 0]) ?_ 1 _ rfl;(with_reducible repeat (first|refine Q5 ?_ _|refine Q9 ?_|refine Q4 ?_ _));refine QM (cs:=#[.int .i64 0,.int .i64 0]) ?_ 0 _ rfl;(with_reducible repeat (first|refine Q5 ?_ _|refine Q9 ?_|refine Q4 ?_ _));exact qhR.out) Try.underlying25 rfl (by kernel_rfl)) rfl ?_
 exact ⟨by first|rfl|(simp [Qw,Qx]<;>rfl)|(simp [*,Qw,Qx]<;>rfl),by repeat (first|(with_reducible first|exact HB.out|apply Q2|apply Q0|apply Q3|refine Q7 ?_ qww.out)|exact HB.out)⟩
end
section
attribute [local go_sem] YC YE Z2 Z3 Yr Ys YD YF
def Jm.f  : Option (List Int × List Int × List Int × Int × Int):=some ((([100,50,20]:List Int)),(([800,700,500]:List Int)),(([0,1,2]:List Int)),60,1)
set_option maxHeartbeats 8000000 in
set_option maxRecDepth 100000 in
theorem Jm.calls  (r1:List Int) (r2:List Int) (r3:List Int) (r4:Int) (r5:Int) (w:World) (h:Jm.f  = some (r1,r2,r3,r4,r5)) :
  Calls Try.prog 57 #[] w fun e w' => ∃ v0_ v1_ v2_:Value,e = .returned (.agg #[v0_,v1_,v2_,.int .i64 r4,.int .i64 r5])∧Kd.R (Kd.int .i64) 3 w' w.heap.size (fun k_=>some k_≠(v1_:Value).ownBlock∧some k_≠(v2_:Value).ownBlock) v0_ r1∧Kd.R (Kd.int .i64) 3 w' w.heap.size (fun k_=>some k_≠(v0_:Value).ownBlock∧some k_≠(v2_:Value).ownBlock) v1_ r2∧Kd.R (Kd.int .i64) 3 w' w.heap.size (fun k_=>some k_≠(v0_:Value).ownBlock∧some k_≠(v1_:Value).ownBlock) v2_ r3∧Below w.heap.size w w':=by
 have qeZ:=Try.underlying39
 have HB:=Q1.mk (Below.refl w.heap.size w)
 have H:(some ((([100,50,20]:List Int)),(([800,700,500]:List Int)),(([0,1,2]:List Int)),60,1))=some (r1,r2,r3,r4,r5):=h
 clear h
 obtain ⟨qfm,qil⟩:∃ y_:List Int,y_=(([100,50,20]:List Int)):=⟨_,rfl⟩
 replace H:(some (qfm,(([800,700,500]:List Int)),(([0,1,2]:List Int)),60,1))=some (r1,r2,r3,r4,r5):=by first|(rw [qil];with_reducible exact H)|(have H2_:=(Option.bind_some _ _).symm.trans H;rw [qil];with_reducible exact H2_)|(have H2_:=(Option.bind_some _ _).symm.trans H;with_reducible exact H2_)|with_reducible exact H|(rw [qil];exact H)|exact H
 have qtg:=Q1.mk qil
 clear qil
 obtain ⟨qhJ,qim⟩:∃ y_:List Int,y_=(([800,700,500]:List Int)):=⟨_,rfl⟩
 replace H:(some (qfm,qhJ,(([0,1,2]:List Int)),60,1))=some (r1,r2,r3,r4,r5):=by first|(rw [qim];with_reducible exact H)|(have H2_:=(Option.bind_some _ _).symm.trans H;rw [qim];with_reducible exact H2_)|(have H2_:=(Option.bind_some _ _).symm.trans H;with_reducible exact H2_)|with_reducible exact H|(rw [qim];exact H)|exact H
 have qth:=Q1.mk qim
 clear qim
 obtain ⟨qk6,qin⟩:∃ y_:List Int,y_=(([0,1,2]:List Int)):=⟨_,rfl⟩
 replace H:(some (qfm,qhJ,qk6,60,1))=some (r1,r2,r3,r4,r5):=by first|(rw [qin];with_reducible exact H)|(have H2_:=(Option.bind_some _ _).symm.trans H;rw [qin];with_reducible exact H2_)|(have H2_:=(Option.bind_some _ _).symm.trans H;with_reducible exact H2_)|with_reducible exact H|(rw [qin];exact H)|exact H
 have qti:=Q1.mk qin
 clear qin
 simp only [Option.some.injEq,Prod.mk.injEq] at H
 obtain ⟨rfl,rfl,rfl,rfl,rfl⟩:=H
 go_enter Try.func57,Try.ntmps57
 go_wp2_with (first|((with_reducible refine QR (N:=0) rfl ?_);refine Yf ?hg (N:=0) ?hd (cs:=#[.slice none 0 0,.slice none 0 0,.slice none 0 0,.int .i64 0,.int .i64 0]) (t:=39) ?hr ?_;(case hd=>rfl);(case hg=>rfl);(case hr=>first|(go_simp;done)|(go_simp;rfl));intro Kk hg w1 hbox hb;have n0_:=Q1.mk (Qi (by repeat (first|(with_reducible first|exact HB.out|apply Q2|apply Q0|apply Q3)|exact HB.out)) hb);have n1_:=Q1.mk (hbox);have n2_:=Q1.mk ((by rw [hg];exact (Qf (by repeat (first|(with_reducible first|exact HB.out|apply Q2|apply Q0|apply Q3)|exact HB.out))):w.heap.size≤Kk));have n3_:=n2_;clear HB;have HB:=n0_;have KQ:=n1_;have qHg:=n2_;have qeB:=n3_;clear n0_ n1_ n2_ n3_ hb hbox hg)|((with_reducible refine QR (N:=1) rfl ?_);refine Kd.R_lit (Kd.int .i64) _ 3 ?hg (N:=1) ?hd (xs:=([100,50,20]:List Int)) (inner:=[.int .i64 100,.int .i64 50,.int .i64 20]) (ok:=fun _=>True) (okp:=fun _=>True) ?hr ?hp (fun _ hk=>hk) trivial (Below.refl _ _) (Nat.le_refl _) (by simp) ?_;(case hd=>rfl);(case hg=>rfl);(case hr=>first|(go_simp;done)|(go_simp;rfl));(case hp=>exact (Reps.one (show Kd.M (Kd.int .i64) _ _ _ 100 [.int .i64 100] from rfl) (Reps.one (show Kd.M (Kd.int .i64) _ _ _ 50 [.int .i64 50] from rfl) (Reps.one (show Kd.M (Kd.int .i64) _ _ _ 20 [.int .i64 20] from rfl) (Reps.none _ _)))));intro qKr w2 ho3 hb hg_ hnew_;clear hg_ hnew_;(first|rw [← qtg.out] at ho3|(simp only [Int.reduceToNat] at ho3;rw [← qtg.out] at ho3));have n0_:=Q1.mk (Kd.R_lower ho3 (Qf (by repeat (first|(with_reducible first|exact HB.out|apply Q2|apply Q0|apply Q3|refine Q7 ?_ qeB.out)|exact HB.out))));have n1_:=Q1.mk (Qg (g:=Kk) (by (with_reducible repeat (first|refine Q5 ?_ _|refine Q9 ?_|refine Q4 ?_ _));exact KQ.out) hb);have n2_:=Q1.mk (Qi (by repeat (first|(with_reducible first|exact HB.out|apply Q2|apply Q0|apply Q3|refine Q7 ?_ qeB.out)|exact HB.out)) hb);clear KQ HB;have qbb:=n0_;have KQ:=n1_;have HB:=n2_;clear n0_ n1_ n2_ hb ho3)|((with_reducible refine QR (N:=2) rfl ?_);refine Kd.R_lit (Kd.int .i64) _ 3 ?hg (N:=2) ?hd (xs:=([800,700,500]:List Int)) (inner:=[.int .i64 800,.int .i64 700,.int .i64 500]) (ok:=fun _=>True) (okp:=fun _=>True) ?hr ?hp (fun _ hk=>hk) trivial (Below.refl _ _) (Nat.le_refl _) (by simp) ?_;(case hd=>rfl);(case hg=>rfl);(case hr=>first|(go_simp;done)|(go_simp;rfl));(case hp=>exact (Reps.one (show Kd.M (Kd.int .i64) _ _ _ 800 [.int .i64 800] from rfl) (Reps.one (show Kd.M (Kd.int .i64) _ _ _ 700 [.int .i64 700] from rfl) (Reps.one (show Kd.M (Kd.int .i64) _ _ _ 500 [.int .i64 500] from rfl) (Reps.none _ _)))));intro qKs w4 ho5 hb hg_ hnew_;clear hg_ hnew_;(first|rw [← qth.out] at ho5|(simp only [Int.reduceToNat] at ho5;rw [← qth.out] at ho5));have n0_:=Q1.mk (Kd.R_elder' (by (with_reducible repeat (first|apply Kd.R_alloc|apply Kd.R_drewN|apply Kd.R_drew));exact qbb.out) (Kd.R_base ho5) hb);have n1_:=Q1.mk (Kd.R_lower (Kd.R_new' ho5 (Kd.R_lt (by (with_reducible repeat (first|apply Kd.R_alloc|apply Kd.R_drewN|apply Kd.R_drew));exact qbb.out))) (Qf (by repeat (first|(with_reducible first|exact HB.out|apply Q2|apply Q0|apply Q3|refine Q7 ?_ qeB.out)|exact HB.out))));have n2_:=Q1.mk (Qg (g:=Kk) (by (with_reducible repeat (first|refine Q5 ?_ _|refine Q9 ?_|refine Q4 ?_ _));exact KQ.out) hb);have n3_:=Q1.mk (Qi (by repeat (first|(with_reducible first|exact HB.out|apply Q2|apply Q0|apply Q3|refine Q7 ?_ qeB.out)|exact HB.out)) hb);clear qbb KQ HB;have qbb:=n0_;have qfJ:=n1_;have KQ:=n2_;have HB:=n3_;clear n0_ n1_ n2_ n3_ hb ho5)|((with_reducible refine QR (N:=3) rfl ?_);refine Kd.R_lit (Kd.int .i64) _ 3 ?hg (N:=3) ?hd (xs:=([0,1,2]:List Int)) (inner:=[.int .i64 0,.int .i64 1,.int .i64 2]) (ok:=fun _=>True) (okp:=fun _=>True) ?hr ?hp (fun _ hk=>hk) trivial (Below.refl _ _) (Nat.le_refl _) (by simp) ?_;(case hd=>rfl);(case hg=>rfl);(case hr=>first|(go_simp;done)|(go_simp;rfl));(case hp=>exact (Reps.one (show Kd.M (Kd.int .i64) _ _ _ 0 [.int .i64 0] from rfl) (Reps.one (show Kd.M (Kd.int .i64) _ _ _ 1 [.int .i64 1] from rfl) (Reps.one (show Kd.M (Kd.int .i64) _ _ _ 2 [.int .i64 2] from rfl) (Reps.none _ _)))));intro qKt w6 ho7 hb hg_ hnew_;clear hg_ hnew_;(first|rw [← qti.out] at ho7|(simp only [Int.reduceToNat] at ho7;rw [← qti.out] at ho7));have n0_:=Q1.mk (Kd.R_elder' (by (with_reducible repeat (first|apply Kd.R_alloc|apply Kd.R_drewN|apply Kd.R_drew));exact qbb.out) (Kd.R_base ho7) hb);have n1_:=Q1.mk (Kd.R_elder' (by (with_reducible repeat (first|apply Kd.R_alloc|apply Kd.R_drewN|apply Kd.R_drew));exact qfJ.out) (Kd.R_base ho7) hb);have n2_:=Q1.mk (Kd.R_lower (Kd.R_new' (Kd.R_new' ho7 (Kd.R_lt (by (with_reducible repeat (first|apply Kd.R_alloc|apply Kd.R_drewN|apply Kd.R_drew));exact qbb.out))) (Kd.R_lt (by (with_reducible repeat (first|apply Kd.R_alloc|apply Kd.R_drewN|apply Kd.R_drew));exact qfJ.out))) (Qf (by repeat (first|(with_reducible first|exact HB.out|apply Q2|apply Q0|apply Q3|refine Q7 ?_ qeB.out)|exact HB.out))));have n3_:=Q1.mk (Qg (g:=Kk) (by (with_reducible repeat (first|refine Q5 ?_ _|refine Q9 ?_|refine Q4 ?_ _));exact KQ.out) hb);have n4_:=Q1.mk (Qi (by repeat (first|(with_reducible first|exact HB.out|apply Q2|apply Q0|apply Q3|refine Q7 ?_ qeB.out)|exact HB.out)) hb);clear qbb qfJ KQ HB;have qbb:=n0_;have qfJ:=n1_;have qtb:=n2_;have KQ:=n3_;have HB:=n4_;clear n0_ n1_ n2_ n3_ n4_ hb ho7;obtain ⟨Ao8,co8,eo8⟩:=Kd.R_slice qtb.out;subst eo8;obtain ⟨Ao9,co9,eo9⟩:=Kd.R_slice qfJ.out;subst eo9;obtain ⟨Xg,Xq,qoQ⟩:=Kd.R_slice qbb.out;subst qoQ;have qlz:w6.cell? ⟨Kk,0,none⟩=some (.slice none 0 0):=(Q6 KQ.out 0).trans rfl;have qlA:w6.cell? ⟨Kk,1,none⟩=some (.slice none 0 0):=(Q6 KQ.out 1).trans rfl;have qlB:w6.cell? ⟨Kk,2,none⟩=some (.slice none 0 0):=(Q6 KQ.out 2).trans rfl;have qqK:w6.cell? ⟨Kk,3,none⟩=some (.int .i64 0):=(Q6 KQ.out 3).trans rfl;have qqL:w6.cell? ⟨Kk,4,none⟩=some (.int .i64 0):=(Q6 KQ.out 4).trans rfl;have qlU:=Q8 KQ.out 0;have qlV:=Q8 KQ.out 1;have qlW:=Q8 KQ.out 2;have qro:=Q8 KQ.out 3;have qrp:=Q8 KQ.out 4))
 refine bodyPost_ret (results_cell_row rfl _ _ Kk 39 #[.slice Xg qfm.length Xq,.slice Ao9 qhJ.length co9,.slice Ao8 qk6.length co8,.int .i64 60,.int .i64 1] (0,0) _ rfl (by (with_reducible repeat (first|refine Q5 ?_ _|refine Q9 ?_|refine Q4 ?_ _));refine QM (cs:=#[.slice Xg qfm.length Xq,.slice Ao9 qhJ.length co9,.slice Ao8 qk6.length co8,.int .i64 60,.int .i64 0]) ?_ 4 _ rfl;(with_reducible repeat (first|refine Q5 ?_ _|refine Q9 ?_|refine Q4 ?_ _));refine QM (cs:=#[.slice Xg qfm.length Xq,.slice Ao9 qhJ.length co9,.slice Ao8 qk6.length co8,.int .i64 0,.int .i64 0]) ?_ 3 _ rfl;(with_reducible repeat (first|refine Q5 ?_ _|refine Q9 ?_|refine Q4 ?_ _));refine QM (cs:=#[.slice Xg qfm.length Xq,.slice Ao9 qhJ.length co9,.slice none 0 0,.int .i64 0,.int .i64 0]) ?_ 2 _ rfl;(with_reducible repeat (first|refine Q5 ?_ _|refine Q9 ?_|refine Q4 ?_ _));refine QM (cs:=#[.slice Xg qfm.length Xq,.slice none 0 0,.slice none 0 0,.int .i64 0,.int .i64 0]) ?_ 1 _ rfl;(with_reducible repeat (first|refine Q5 ?_ _|refine Q9 ?_|refine Q4 ?_ _));refine QM (cs:=#[.slice none 0 0,.slice none 0 0,.slice none 0 0,.int .i64 0,.int .i64 0]) ?_ 0 _ rfl;(with_reducible repeat (first|refine Q5 ?_ _|refine Q9 ?_|refine Q4 ?_ _));exact KQ.out) Try.underlying39 rfl (by kernel_rfl)) rfl ?_
 exact ⟨_,_,_,by first|rfl|(simp [Qw,Qx]<;>rfl)|(simp [*,Qw,Qx]<;>rfl),by (with_reducible repeat (first|apply Kd.R_alloc|apply Kd.R_drewN|apply Kd.R_drew));exact Kd.R_mono (Kd.R_far (p:=⟨Kk,4,none⟩) (Kd.R_far (p:=⟨Kk,3,none⟩) (Kd.R_far (p:=⟨Kk,2,none⟩) (Kd.R_far (p:=⟨Kk,1,none⟩) (Kd.R_far (p:=⟨Kk,0,none⟩) (Kd.R_types qbb.out KQ.out (by decide)) (fun _ hk=>hk.2) (.slice Xg qfm.length Xq)) (fun _ hk=>hk.2) (.slice Ao9 qhJ.length co9)) (fun _ hk=>hk.2) (.slice Ao8 qk6.length co8)) (fun _ hk=>hk.2) (.int .i64 60)) (fun _ hk=>hk.2) (.int .i64 1)) (fun _ hk=>⟨hk.1.1.2,hk.1.2⟩),by (with_reducible repeat (first|apply Kd.R_alloc|apply Kd.R_drewN|apply Kd.R_drew));exact Kd.R_mono (Kd.R_far (p:=⟨Kk,4,none⟩) (Kd.R_far (p:=⟨Kk,3,none⟩) (Kd.R_far (p:=⟨Kk,2,none⟩) (Kd.R_far (p:=⟨Kk,1,none⟩) (Kd.R_far (p:=⟨Kk,0,none⟩) (Kd.R_types qfJ.out KQ.out (by decide)) (fun _ hk=>hk.2) (.slice Xg qfm.length Xq)) (fun _ hk=>hk.2) (.slice Ao9 qhJ.length co9)) (fun _ hk=>hk.2) (.slice Ao8 qk6.length co8)) (fun _ hk=>hk.2) (.int .i64 60)) (fun _ hk=>hk.2) (.int .i64 1)) (fun _ hk=>⟨hk.1.1.2,hk.1.2⟩),by (with_reducible repeat (first|apply Kd.R_alloc|apply Kd.R_drewN|apply Kd.R_drew));exact Kd.R_mono (Kd.R_far (p:=⟨Kk,4,none⟩) (Kd.R_far (p:=⟨Kk,3,none⟩) (Kd.R_far (p:=⟨Kk,2,none⟩) (Kd.R_far (p:=⟨Kk,1,none⟩) (Kd.R_far (p:=⟨Kk,0,none⟩) (Kd.R_types qtb.out KQ.out (by decide)) (fun _ hk=>hk.2) (.slice Xg qfm.length Xq)) (fun _ hk=>hk.2) (.slice Ao9 qhJ.length co9)) (fun _ hk=>hk.2) (.slice Ao8 qk6.length co8)) (fun _ hk=>hk.2) (.int .i64 60)) (fun _ hk=>hk.2) (.int .i64 1)) (fun _ hk=>⟨hk.1.1.2,hk.1.2⟩),by repeat (first|(with_reducible first|exact HB.out|apply Q2|apply Q0|apply Q3|refine Q7 ?_ qeB.out)|exact HB.out)⟩
end
section
attribute [local go_sem] YC YE Z2 Z3 Yr Ys YD YF
def JK.f  : Option (List Int × List Int × List Int × Int × Int):=some ((([60,60]:List Int)),(([500,500]:List Int)),(([1,1]:List Int)),50,0)
set_option maxHeartbeats 8000000 in
set_option maxRecDepth 100000 in
theorem JK.calls  (r1:List Int) (r2:List Int) (r3:List Int) (r4:Int) (r5:Int) (w:World) (h:JK.f  = some (r1,r2,r3,r4,r5)) :
  Calls Try.prog 94 #[] w fun e w' => ∃ v0_ v1_ v2_:Value,e = .returned (.agg #[v0_,v1_,v2_,.int .i64 r4,.int .i64 r5])∧Kd.R (Kd.int .i64) 3 w' w.heap.size (fun k_=>some k_≠(v1_:Value).ownBlock∧some k_≠(v2_:Value).ownBlock) v0_ r1∧Kd.R (Kd.int .i64) 3 w' w.heap.size (fun k_=>some k_≠(v0_:Value).ownBlock∧some k_≠(v2_:Value).ownBlock) v1_ r2∧Kd.R (Kd.int .i64) 3 w' w.heap.size (fun k_=>some k_≠(v0_:Value).ownBlock∧some k_≠(v1_:Value).ownBlock) v2_ r3∧Below w.heap.size w w':=by
 have qeZ:=Try.underlying39
 have HB:=Q1.mk (Below.refl w.heap.size w)
 have H:(some ((([60,60]:List Int)),(([500,500]:List Int)),(([1,1]:List Int)),50,0))=some (r1,r2,r3,r4,r5):=h
 clear h
 obtain ⟨qfn,qio⟩:∃ y_:List Int,y_=(([60,60]:List Int)):=⟨_,rfl⟩
 replace H:(some (qfn,(([500,500]:List Int)),(([1,1]:List Int)),50,0))=some (r1,r2,r3,r4,r5):=by first|(rw [qio];with_reducible exact H)|(have H2_:=(Option.bind_some _ _).symm.trans H;rw [qio];with_reducible exact H2_)|(have H2_:=(Option.bind_some _ _).symm.trans H;with_reducible exact H2_)|with_reducible exact H|(rw [qio];exact H)|exact H
 have qtj:=Q1.mk qio
 clear qio
 obtain ⟨qhK,qip⟩:∃ y_:List Int,y_=(([500,500]:List Int)):=⟨_,rfl⟩
 replace H:(some (qfn,qhK,(([1,1]:List Int)),50,0))=some (r1,r2,r3,r4,r5):=by first|(rw [qip];with_reducible exact H)|(have H2_:=(Option.bind_some _ _).symm.trans H;rw [qip];with_reducible exact H2_)|(have H2_:=(Option.bind_some _ _).symm.trans H;with_reducible exact H2_)|with_reducible exact H|(rw [qip];exact H)|exact H
 have qtk:=Q1.mk qip
 clear qip
 obtain ⟨qk7,qiq⟩:∃ y_:List Int,y_=(([1,1]:List Int)):=⟨_,rfl⟩
 replace H:(some (qfn,qhK,qk7,50,0))=some (r1,r2,r3,r4,r5):=by first|(rw [qiq];with_reducible exact H)|(have H2_:=(Option.bind_some _ _).symm.trans H;rw [qiq];with_reducible exact H2_)|(have H2_:=(Option.bind_some _ _).symm.trans H;with_reducible exact H2_)|with_reducible exact H|(rw [qiq];exact H)|exact H
 have qtl:=Q1.mk qiq
 clear qiq
 simp only [Option.some.injEq,Prod.mk.injEq] at H
 obtain ⟨rfl,rfl,rfl,rfl,rfl⟩:=H
 go_enter Try.func94,Try.ntmps94
 go_wp2_with (first|((with_reducible refine QR (N:=0) rfl ?_);refine Yf ?hg (N:=0) ?hd (cs:=#[.slice none 0 0,.slice none 0 0,.slice none 0 0,.int .i64 0,.int .i64 0]) (t:=39) ?hr ?_;(case hd=>rfl);(case hg=>rfl);(case hr=>first|(go_simp;done)|(go_simp;rfl));intro Kl hg w1 hbox hb;have n0_:=Q1.mk (Qi (by repeat (first|(with_reducible first|exact HB.out|apply Q2|apply Q0|apply Q3)|exact HB.out)) hb);have n1_:=Q1.mk (hbox);have n2_:=Q1.mk ((by rw [hg];exact (Qf (by repeat (first|(with_reducible first|exact HB.out|apply Q2|apply Q0|apply Q3)|exact HB.out))):w.heap.size≤Kl));have n3_:=n2_;clear HB;have HB:=n0_;have KR:=n1_;have qHh:=n2_;have qeC:=n3_;clear n0_ n1_ n2_ n3_ hb hbox hg)|((with_reducible refine QR (N:=1) rfl ?_);refine Kd.R_lit (Kd.int .i64) _ 3 ?hg (N:=1) ?hd (xs:=([60,60]:List Int)) (inner:=[.int .i64 60,.int .i64 60]) (ok:=fun _=>True) (okp:=fun _=>True) ?hr ?hp (fun _ hk=>hk) trivial (Below.refl _ _) (Nat.le_refl _) (by simp) ?_;(case hd=>rfl);(case hg=>rfl);(case hr=>first|(go_simp;done)|(go_simp;rfl));(case hp=>exact (Reps.one (show Kd.M (Kd.int .i64) _ _ _ 60 [.int .i64 60] from rfl) (Reps.one (show Kd.M (Kd.int .i64) _ _ _ 60 [.int .i64 60] from rfl) (Reps.none _ _))));intro qKu w2 ho3 hb hg_ hnew_;clear hg_ hnew_;(first|rw [← qtj.out] at ho3|(simp only [Int.reduceToNat] at ho3;rw [← qtj.out] at ho3));have n0_:=Q1.mk (Kd.R_lower ho3 (Qf (by repeat (first|(with_reducible first|exact HB.out|apply Q2|apply Q0|apply Q3|refine Q7 ?_ qeC.out)|exact HB.out))));have n1_:=Q1.mk (Qg (g:=Kl) (by (with_reducible repeat (first|refine Q5 ?_ _|refine Q9 ?_|refine Q4 ?_ _));exact KR.out) hb);have n2_:=Q1.mk (Qi (by repeat (first|(with_reducible first|exact HB.out|apply Q2|apply Q0|apply Q3|refine Q7 ?_ qeC.out)|exact HB.out)) hb);clear KR HB;have qbc:=n0_;have KR:=n1_;have HB:=n2_;clear n0_ n1_ n2_ hb ho3)|((with_reducible refine QR (N:=2) rfl ?_);refine Kd.R_lit (Kd.int .i64) _ 3 ?hg (N:=2) ?hd (xs:=([500,500]:List Int)) (inner:=[.int .i64 500,.int .i64 500]) (ok:=fun _=>True) (okp:=fun _=>True) ?hr ?hp (fun _ hk=>hk) trivial (Below.refl _ _) (Nat.le_refl _) (by simp) ?_;(case hd=>rfl);(case hg=>rfl);(case hr=>first|(go_simp;done)|(go_simp;rfl));(case hp=>exact (Reps.one (show Kd.M (Kd.int .i64) _ _ _ 500 [.int .i64 500] from rfl) (Reps.one (show Kd.M (Kd.int .i64) _ _ _ 500 [.int .i64 500] from rfl) (Reps.none _ _))));intro qKv w4 ho5 hb hg_ hnew_;clear hg_ hnew_;(first|rw [← qtk.out] at ho5|(simp only [Int.reduceToNat] at ho5;rw [← qtk.out] at ho5));have n0_:=Q1.mk (Kd.R_elder' (by (with_reducible repeat (first|apply Kd.R_alloc|apply Kd.R_drewN|apply Kd.R_drew));exact qbc.out) (Kd.R_base ho5) hb);have n1_:=Q1.mk (Kd.R_lower (Kd.R_new' ho5 (Kd.R_lt (by (with_reducible repeat (first|apply Kd.R_alloc|apply Kd.R_drewN|apply Kd.R_drew));exact qbc.out))) (Qf (by repeat (first|(with_reducible first|exact HB.out|apply Q2|apply Q0|apply Q3|refine Q7 ?_ qeC.out)|exact HB.out))));have n2_:=Q1.mk (Qg (g:=Kl) (by (with_reducible repeat (first|refine Q5 ?_ _|refine Q9 ?_|refine Q4 ?_ _));exact KR.out) hb);have n3_:=Q1.mk (Qi (by repeat (first|(with_reducible first|exact HB.out|apply Q2|apply Q0|apply Q3|refine Q7 ?_ qeC.out)|exact HB.out)) hb);clear qbc KR HB;have qbc:=n0_;have qfK:=n1_;have KR:=n2_;have HB:=n3_;clear n0_ n1_ n2_ n3_ hb ho5)|((with_reducible refine QR (N:=3) rfl ?_);refine Kd.R_lit (Kd.int .i64) _ 3 ?hg (N:=3) ?hd (xs:=([1,1]:List Int)) (inner:=[.int .i64 1,.int .i64 1]) (ok:=fun _=>True) (okp:=fun _=>True) ?hr ?hp (fun _ hk=>hk) trivial (Below.refl _ _) (Nat.le_refl _) (by simp) ?_;(case hd=>rfl);(case hg=>rfl);(case hr=>first|(go_simp;done)|(go_simp;rfl));(case hp=>exact (Reps.one (show Kd.M (Kd.int .i64) _ _ _ 1 [.int .i64 1] from rfl) (Reps.one (show Kd.M (Kd.int .i64) _ _ _ 1 [.int .i64 1] from rfl) (Reps.none _ _))));intro qKw w6 ho7 hb hg_ hnew_;clear hg_ hnew_;(first|rw [← qtl.out] at ho7|(simp only [Int.reduceToNat] at ho7;rw [← qtl.out] at ho7));have n0_:=Q1.mk (Kd.R_elder' (by (with_reducible repeat (first|apply Kd.R_alloc|apply Kd.R_drewN|apply Kd.R_drew));exact qbc.out) (Kd.R_base ho7) hb);have n1_:=Q1.mk (Kd.R_elder' (by (with_reducible repeat (first|apply Kd.R_alloc|apply Kd.R_drewN|apply Kd.R_drew));exact qfK.out) (Kd.R_base ho7) hb);have n2_:=Q1.mk (Kd.R_lower (Kd.R_new' (Kd.R_new' ho7 (Kd.R_lt (by (with_reducible repeat (first|apply Kd.R_alloc|apply Kd.R_drewN|apply Kd.R_drew));exact qbc.out))) (Kd.R_lt (by (with_reducible repeat (first|apply Kd.R_alloc|apply Kd.R_drewN|apply Kd.R_drew));exact qfK.out))) (Qf (by repeat (first|(with_reducible first|exact HB.out|apply Q2|apply Q0|apply Q3|refine Q7 ?_ qeC.out)|exact HB.out))));have n3_:=Q1.mk (Qg (g:=Kl) (by (with_reducible repeat (first|refine Q5 ?_ _|refine Q9 ?_|refine Q4 ?_ _));exact KR.out) hb);have n4_:=Q1.mk (Qi (by repeat (first|(with_reducible first|exact HB.out|apply Q2|apply Q0|apply Q3|refine Q7 ?_ qeC.out)|exact HB.out)) hb);clear qbc qfK KR HB;have qbc:=n0_;have qfK:=n1_;have qtc:=n2_;have KR:=n3_;have HB:=n4_;clear n0_ n1_ n2_ n3_ n4_ hb ho7;obtain ⟨Ao8,co8,eo8⟩:=Kd.R_slice qtc.out;subst eo8;obtain ⟨Ao9,co9,eo9⟩:=Kd.R_slice qfK.out;subst eo9;obtain ⟨Xg,Xq,qoQ⟩:=Kd.R_slice qbc.out;subst qoQ;have qlz:w6.cell? ⟨Kl,0,none⟩=some (.slice none 0 0):=(Q6 KR.out 0).trans rfl;have qlA:w6.cell? ⟨Kl,1,none⟩=some (.slice none 0 0):=(Q6 KR.out 1).trans rfl;have qlB:w6.cell? ⟨Kl,2,none⟩=some (.slice none 0 0):=(Q6 KR.out 2).trans rfl;have qqK:w6.cell? ⟨Kl,3,none⟩=some (.int .i64 0):=(Q6 KR.out 3).trans rfl;have qqL:w6.cell? ⟨Kl,4,none⟩=some (.int .i64 0):=(Q6 KR.out 4).trans rfl;have qlU:=Q8 KR.out 0;have qlV:=Q8 KR.out 1;have qlW:=Q8 KR.out 2;have qro:=Q8 KR.out 3;have qrp:=Q8 KR.out 4))
 refine bodyPost_ret (results_cell_row rfl _ _ Kl 39 #[.slice Xg qfn.length Xq,.slice Ao9 qhK.length co9,.slice Ao8 qk7.length co8,.int .i64 50,.int .i64 0] (0,0) _ rfl (by (with_reducible repeat (first|refine Q5 ?_ _|refine Q9 ?_|refine Q4 ?_ _));refine QM (cs:=#[.slice Xg qfn.length Xq,.slice Ao9 qhK.length co9,.slice Ao8 qk7.length co8,.int .i64 50,.int .i64 0]) ?_ 4 _ rfl;(with_reducible repeat (first|refine Q5 ?_ _|refine Q9 ?_|refine Q4 ?_ _));refine QM (cs:=#[.slice Xg qfn.length Xq,.slice Ao9 qhK.length co9,.slice Ao8 qk7.length co8,.int .i64 0,.int .i64 0]) ?_ 3 _ rfl;(with_reducible repeat (first|refine Q5 ?_ _|refine Q9 ?_|refine Q4 ?_ _));refine QM (cs:=#[.slice Xg qfn.length Xq,.slice Ao9 qhK.length co9,.slice none 0 0,.int .i64 0,.int .i64 0]) ?_ 2 _ rfl;(with_reducible repeat (first|refine Q5 ?_ _|refine Q9 ?_|refine Q4 ?_ _));refine QM (cs:=#[.slice Xg qfn.length Xq,.slice none 0 0,.slice none 0 0,.int .i64 0,.int .i64 0]) ?_ 1 _ rfl;(with_reducible repeat (first|refine Q5 ?_ _|refine Q9 ?_|refine Q4 ?_ _));refine QM (cs:=#[.slice none 0 0,.slice none 0 0,.slice none 0 0,.int .i64 0,.int .i64 0]) ?_ 0 _ rfl;(with_reducible repeat (first|refine Q5 ?_ _|refine Q9 ?_|refine Q4 ?_ _));exact KR.out) Try.underlying39 rfl (by kernel_rfl)) rfl ?_
 exact ⟨_,_,_,by first|rfl|(simp [Qw,Qx]<;>rfl)|(simp [*,Qw,Qx]<;>rfl),by (with_reducible repeat (first|apply Kd.R_alloc|apply Kd.R_drewN|apply Kd.R_drew));exact Kd.R_mono (Kd.R_far (p:=⟨Kl,4,none⟩) (Kd.R_far (p:=⟨Kl,3,none⟩) (Kd.R_far (p:=⟨Kl,2,none⟩) (Kd.R_far (p:=⟨Kl,1,none⟩) (Kd.R_far (p:=⟨Kl,0,none⟩) (Kd.R_types qbc.out KR.out (by decide)) (fun _ hk=>hk.2) (.slice Xg qfn.length Xq)) (fun _ hk=>hk.2) (.slice Ao9 qhK.length co9)) (fun _ hk=>hk.2) (.slice Ao8 qk7.length co8)) (fun _ hk=>hk.2) (.int .i64 50)) (fun _ hk=>hk.2) (.int .i64 0)) (fun _ hk=>⟨hk.1.1.2,hk.1.2⟩),by (with_reducible repeat (first|apply Kd.R_alloc|apply Kd.R_drewN|apply Kd.R_drew));exact Kd.R_mono (Kd.R_far (p:=⟨Kl,4,none⟩) (Kd.R_far (p:=⟨Kl,3,none⟩) (Kd.R_far (p:=⟨Kl,2,none⟩) (Kd.R_far (p:=⟨Kl,1,none⟩) (Kd.R_far (p:=⟨Kl,0,none⟩) (Kd.R_types qfK.out KR.out (by decide)) (fun _ hk=>hk.2) (.slice Xg qfn.length Xq)) (fun _ hk=>hk.2) (.slice Ao9 qhK.length co9)) (fun _ hk=>hk.2) (.slice Ao8 qk7.length co8)) (fun _ hk=>hk.2) (.int .i64 50)) (fun _ hk=>hk.2) (.int .i64 0)) (fun _ hk=>⟨hk.1.1.2,hk.1.2⟩),by (with_reducible repeat (first|apply Kd.R_alloc|apply Kd.R_drewN|apply Kd.R_drew));exact Kd.R_mono (Kd.R_far (p:=⟨Kl,4,none⟩) (Kd.R_far (p:=⟨Kl,3,none⟩) (Kd.R_far (p:=⟨Kl,2,none⟩) (Kd.R_far (p:=⟨Kl,1,none⟩) (Kd.R_far (p:=⟨Kl,0,none⟩) (Kd.R_types qtc.out KR.out (by decide)) (fun _ hk=>hk.2) (.slice Xg qfn.length Xq)) (fun _ hk=>hk.2) (.slice Ao9 qhK.length co9)) (fun _ hk=>hk.2) (.slice Ao8 qk7.length co8)) (fun _ hk=>hk.2) (.int .i64 50)) (fun _ hk=>hk.2) (.int .i64 0)) (fun _ hk=>⟨hk.1.1.2,hk.1.2⟩),by repeat (first|(with_reducible first|exact HB.out|apply Q2|apply Q0|apply Q3|refine Q7 ?_ qeC.out)|exact HB.out)⟩
end
section
attribute [local go_sem] YC YE Z2 Z3 Yr Ys YD YF
def Ga.f  : Option ((List (S39)) × List Int × (List (List (List Int)))):=(Jm.f).bind fun qau=>((JK.f).bind fun UN=>(some ((([(⟨qau.1,qau.2.1,qau.2.2.1,qau.2.2.2.1,qau.2.2.2.2⟩:S39),(⟨UN.1,UN.2.1,UN.2.2.1,UN.2.2.2.1,UN.2.2.2.2⟩:S39)]:List (S39))),(([40,80]:List Int)),(([(([(([90,80]:List Int)),(([10,10]:List Int))]:List (List Int))),(([(([0,0]:List Int)),(([0,0]:List Int))]:List (List Int)))]:List (List (List Int)))))))
set_option maxHeartbeats 8000000 in
set_option maxRecDepth 100000 in
theorem Ga.calls  (r1:List (S39)) (r2:List Int) (r3:List (List (List Int))) (w:World) (h:Ga.f  = some (r1,r2,r3)) :
  Calls Try.prog 58 #[] w fun e w' => ∃ v0_ v1_ v2_:Value,e = .returned (.agg #[v0_,v1_,v2_])∧Kd.N k39 39 w' w.heap.size (fun k_=>(w.heap.size≤k_)∧some k_≠(v1_:Value).ownBlock∧some k_≠(v2_:Value).ownBlock) v0_ r1∧Kd.R (Kd.int .i64) 3 w' w.heap.size (fun k_=>(w.heap.size≤k_)) v1_ r2∧Kd.N (Kd.slice 37 (Kd.slice 3 (Kd.int .i64))) 63 w' w.heap.size (fun k_=>(w.heap.size≤k_)∧some k_≠(v0_:Value).ownBlock∧some k_≠(v1_:Value).ownBlock) v2_ r3∧Below w.heap.size w w':=by
 have qgO:=Try.underlying47
 have HB:=Q1.mk (Below.refl w.heap.size w)
 have H:((Jm.f).bind fun qau=>((JK.f).bind fun UN=>(some ((([(⟨qau.1,qau.2.1,qau.2.2.1,qau.2.2.2.1,qau.2.2.2.2⟩:S39),(⟨UN.1,UN.2.1,UN.2.2.1,UN.2.2.2.1,UN.2.2.2.2⟩:S39)]:List (S39))),(([40,80]:List Int)),(([(([(([90,80]:List Int)),(([10,10]:List Int))]:List (List Int))),(([(([0,0]:List Int)),(([0,0]:List Int))]:List (List Int)))]:List (List (List Int))))))))=some (r1,r2,r3):=h
 clear h
 replace H:=Option.bind_eq_some_iff.mp H
 obtain ⟨⟨qg9,qha,qhb,qhc,qhd⟩,A10,H⟩:=H
 replace H:((JK.f).bind fun UN=>(some ((([(⟨qg9,qha,qhb,qhc,qhd⟩:S39),(⟨UN.1,UN.2.1,UN.2.2.1,UN.2.2.2.1,UN.2.2.2.2⟩:S39)]:List (S39))),(([40,80]:List Int)),(([(([(([90,80]:List Int)),(([10,10]:List Int))]:List (List Int))),(([(([0,0]:List Int)),(([0,0]:List Int))]:List (List Int)))]:List (List (List Int)))))))=some (r1,r2,r3):=H
 have A1:=Q1.mk A10
 clear A10
 replace H:=Option.bind_eq_some_iff.mp H
 obtain ⟨⟨qjl,qjm,qjn,qjo,qjp⟩,A20,H⟩:=H
 replace H:(some ((([(⟨qg9,qha,qhb,qhc,qhd⟩:S39),(⟨qjl,qjm,qjn,qjo,qjp⟩:S39)]:List (S39))),(([40,80]:List Int)),(([(([(([90,80]:List Int)),(([10,10]:List Int))]:List (List Int))),(([(([0,0]:List Int)),(([0,0]:List Int))]:List (List Int)))]:List (List (List Int))))))=some (r1,r2,r3):=H
 have A2:=Q1.mk A20
 clear A20
 obtain ⟨qbM,qir⟩:∃ y_:List (S39),y_=(([(⟨qg9,qha,qhb,qhc,qhd⟩:S39),(⟨qjl,qjm,qjn,qjo,qjp⟩:S39)]:List (S39))):=⟨_,rfl⟩
 replace H:(some (qbM,(([40,80]:List Int)),(([(([(([90,80]:List Int)),(([10,10]:List Int))]:List (List Int))),(([(([0,0]:List Int)),(([0,0]:List Int))]:List (List Int)))]:List (List (List Int))))))=some (r1,r2,r3):=by first|(rw [qir];with_reducible exact H)|(have H2_:=(Option.bind_some _ _).symm.trans H;rw [qir];with_reducible exact H2_)|(have H2_:=(Option.bind_some _ _).symm.trans H;with_reducible exact H2_)|with_reducible exact H|(rw [qir];exact H)|exact H
 have qtm:=Q1.mk qir
 clear qir
 obtain ⟨qds,qis⟩:∃ y_:List Int,y_=(([40,80]:List Int)):=⟨_,rfl⟩
 replace H:(some (qbM,qds,(([(([(([90,80]:List Int)),(([10,10]:List Int))]:List (List Int))),(([(([0,0]:List Int)),(([0,0]:List Int))]:List (List Int)))]:List (List (List Int))))))=some (r1,r2,r3):=by first|(rw [qis];with_reducible exact H)|(have H2_:=(Option.bind_some _ _).symm.trans H;rw [qis];with_reducible exact H2_)|(have H2_:=(Option.bind_some _ _).symm.trans H;with_reducible exact H2_)|with_reducible exact H|(rw [qis];exact H)|exact H
 have qtn:=Q1.mk qis
 clear qis
 obtain ⟨qk8,qit⟩:∃ y_:List Int,y_=(([90,80]:List Int)):=⟨_,rfl⟩
 replace H:(some (qbM,qds,(([(([qk8,(([10,10]:List Int))]:List (List Int))),(([(([0,0]:List Int)),(([0,0]:List Int))]:List (List Int)))]:List (List (List Int))))))=some (r1,r2,r3):=by first|(rw [qit];with_reducible exact H)|(have H2_:=(Option.bind_some _ _).symm.trans H;rw [qit];with_reducible exact H2_)|(have H2_:=(Option.bind_some _ _).symm.trans H;with_reducible exact H2_)|with_reducible exact H|(rw [qit];exact H)|exact H
 have qto:=Q1.mk qit
 clear qit
 obtain ⟨qn6,qiu⟩:∃ y_:List Int,y_=(([10,10]:List Int)):=⟨_,rfl⟩
 replace H:(some (qbM,qds,(([(([qk8,qn6]:List (List Int))),(([(([0,0]:List Int)),(([0,0]:List Int))]:List (List Int)))]:List (List (List Int))))))=some (r1,r2,r3):=by first|(rw [qiu];with_reducible exact H)|(have H2_:=(Option.bind_some _ _).symm.trans H;rw [qiu];with_reducible exact H2_)|(have H2_:=(Option.bind_some _ _).symm.trans H;with_reducible exact H2_)|with_reducible exact H|(rw [qiu];exact H)|exact H
 have qtp:=Q1.mk qiu
 clear qiu
 obtain ⟨qhL,qiv⟩:∃ y_:List (List Int),y_=(([qk8,qn6]:List (List Int))):=⟨_,rfl⟩
 replace H:(some (qbM,qds,(([qhL,(([(([0,0]:List Int)),(([0,0]:List Int))]:List (List Int)))]:List (List (List Int))))))=some (r1,r2,r3):=by first|(rw [qiv];with_reducible exact H)|(have H2_:=(Option.bind_some _ _).symm.trans H;rw [qiv];with_reducible exact H2_)|(have H2_:=(Option.bind_some _ _).symm.trans H;with_reducible exact H2_)|with_reducible exact H|(rw [qiv];exact H)|exact H
 have qtq:=Q1.mk qiv
 clear qiv
 obtain ⟨qk9,qiw⟩:∃ y_:List Int,y_=(([0,0]:List Int)):=⟨_,rfl⟩
 replace H:(some (qbM,qds,(([qhL,(([qk9,(([0,0]:List Int))]:List (List Int)))]:List (List (List Int))))))=some (r1,r2,r3):=by first|(rw [qiw];with_reducible exact H)|(have H2_:=(Option.bind_some _ _).symm.trans H;rw [qiw];with_reducible exact H2_)|(have H2_:=(Option.bind_some _ _).symm.trans H;with_reducible exact H2_)|with_reducible exact H|(rw [qiw];exact H)|exact H
 have qtr:=Q1.mk qiw
 clear qiw
 obtain ⟨qn7,qix⟩:∃ y_:List Int,y_=(([0,0]:List Int)):=⟨_,rfl⟩
 replace H:(some (qbM,qds,(([qhL,(([qk9,qn7]:List (List Int)))]:List (List (List Int))))))=some (r1,r2,r3):=by first|(rw [qix];with_reducible exact H)|(have H2_:=(Option.bind_some _ _).symm.trans H;rw [qix];with_reducible exact H2_)|(have H2_:=(Option.bind_some _ _).symm.trans H;with_reducible exact H2_)|with_reducible exact H|(rw [qix];exact H)|exact H
 have qts:=Q1.mk qix
 clear qix
 obtain ⟨qn8,qiy⟩:∃ y_:List (List Int),y_=(([qk9,qn7]:List (List Int))):=⟨_,rfl⟩
 replace H:(some (qbM,qds,(([qhL,qn8]:List (List (List Int))))))=some (r1,r2,r3):=by first|(rw [qiy];with_reducible exact H)|(have H2_:=(Option.bind_some _ _).symm.trans H;rw [qiy];with_reducible exact H2_)|(have H2_:=(Option.bind_some _ _).symm.trans H;with_reducible exact H2_)|with_reducible exact H|(rw [qiy];exact H)|exact H
 have qtt:=Q1.mk qiy
 clear qiy
 obtain ⟨qpX,qiz⟩:∃ y_:List (List (List Int)),y_=(([qhL,qn8]:List (List (List Int)))):=⟨_,rfl⟩
 replace H:(some (qbM,qds,qpX))=some (r1,r2,r3):=by first|(rw [qiz];with_reducible exact H)|(have H2_:=(Option.bind_some _ _).symm.trans H;rw [qiz];with_reducible exact H2_)|(have H2_:=(Option.bind_some _ _).symm.trans H;with_reducible exact H2_)|with_reducible exact H|(rw [qiz];exact H)|exact H
 have qtu:=Q1.mk qiz
 clear qiz
 simp only [Option.some.injEq,Prod.mk.injEq] at H
 obtain ⟨rfl,rfl,rfl⟩:=H
 go_enter Try.func58,Try.ntmps58
 go_wp2_with (first|((with_reducible refine QR (N:=0) rfl ?_);refine Yf ?hg (N:=0) ?hd (cs:=#[.slice none 0 0,.slice none 0 0,.slice none 0 0]) (t:=47) ?hr ?_;(case hd=>rfl);(case hg=>rfl);(case hr=>first|(go_simp;done)|(go_simp;rfl));intro Zm hg w3 hbox hb;have n0_:=Q1.mk (Qi (by repeat (first|(with_reducible first|exact HB.out|apply Q2|apply Q0|apply Q3)|exact HB.out)) hb);have n1_:=Q1.mk (hbox);have n2_:=Q1.mk ((by rw [hg];exact (Qf (by repeat (first|(with_reducible first|exact HB.out|apply Q2|apply Q0|apply Q3)|exact HB.out))):w.heap.size≤Zm));have n3_:=n2_;clear HB;have HB:=n0_;have Zq:=n1_;have qHi:=n2_;have Jw:=n3_;clear n0_ n1_ n2_ n3_ hb hbox hg)|((with_reducible refine Qu (f:=57) rfl ?_);refine Yk (some 1) rfl rfl Try.func57 (by kernel_rfl) rfl #[] rfl (by (try simp only [List.map_toArray,List.map_cons,List.map_nil]);first|done|rfl|(simp only [List.length_drop,List.length_take];rfl)) ?_;(with_reducible refine (Jm.calls  qg9 qha qhb qhc qhd _ A1.out).mono ?_);rintro e w4 ⟨qKx,qKy,qKz,rfl,ho0,ho1,ho2,hb⟩;refine ⟨_,rfl,?_⟩;have n0_:=Q1.mk (Kd.R_lower (Kd.R_newM (M:=fun k_=>(w.heap.size≤k_)) ho0 (Qf (by repeat (first|(with_reducible first|exact HB.out|apply Q2|apply Q0|apply Q3|refine Q7 ?_ Jw.out)|exact HB.out))) (fun k_ h_=>h_)) (Qf (by repeat (first|(with_reducible first|exact HB.out|apply Q2|apply Q0|apply Q3|refine Q7 ?_ Jw.out)|exact HB.out))));have n1_:=Q1.mk (Kd.R_lower (Kd.R_newM (M:=fun k_=>(w.heap.size≤k_)) ho1 (Qf (by repeat (first|(with_reducible first|exact HB.out|apply Q2|apply Q0|apply Q3|refine Q7 ?_ Jw.out)|exact HB.out))) (fun k_ h_=>h_)) (Qf (by repeat (first|(with_reducible first|exact HB.out|apply Q2|apply Q0|apply Q3|refine Q7 ?_ Jw.out)|exact HB.out))));have n2_:=Q1.mk (Kd.R_lower (Kd.R_newM (M:=fun k_=>(w.heap.size≤k_)) ho2 (Qf (by repeat (first|(with_reducible first|exact HB.out|apply Q2|apply Q0|apply Q3|refine Q7 ?_ Jw.out)|exact HB.out))) (fun k_ h_=>h_)) (Qf (by repeat (first|(with_reducible first|exact HB.out|apply Q2|apply Q0|apply Q3|refine Q7 ?_ Jw.out)|exact HB.out))));have n3_:=Q1.mk (Qg (g:=Zm) (by (with_reducible repeat (first|refine Q5 ?_ _|refine Q9 ?_|refine Q4 ?_ _));exact Zq.out) hb);have n4_:=Q1.mk (Qi (by repeat (first|(with_reducible first|exact HB.out|apply Q2|apply Q0|apply Q3|refine Q7 ?_ Jw.out)|exact HB.out)) hb);clear Zq HB;have qbd:=n0_;have qbe:=n1_;have qbf:=n2_;have Zq:=n3_;have HB:=n4_;clear n0_ n1_ n2_ n3_ n4_;(try clear hb);(try clear hb2);(try clear hk);(try clear hi);(try clear ho0);(try clear ho1);(try clear ho2))|((with_reducible refine Qu (f:=94) rfl ?_);refine Yk (some 2) rfl rfl Try.func94 (by kernel_rfl) rfl #[] rfl (by (try simp only [List.map_toArray,List.map_cons,List.map_nil]);first|done|rfl|(simp only [List.length_drop,List.length_take];rfl)) ?_;(with_reducible refine (JK.calls  qjl qjm qjn qjo qjp _ A2.out).mono ?_);rintro e w5 ⟨qKA,qKB,qKC,rfl,ho0,ho1,ho2,hb⟩;refine ⟨_,rfl,?_⟩;have n0_:=Q1.mk (Kd.R_mono (Kd.R_told (Kd.R_told (Kd.R_told (Kd.R_old (by (with_reducible repeat (first|apply Kd.R_alloc|apply Kd.R_drewN|apply Kd.R_drew));exact qbd.out) hb) (Kd.R_base ho0)) (Kd.R_base ho1)) (Kd.R_base ho2)) (fun _ h_=>h_.1));have n1_:=Q1.mk (Kd.R_mono (Kd.R_told (Kd.R_told (Kd.R_told (Kd.R_old (by (with_reducible repeat (first|apply Kd.R_alloc|apply Kd.R_drewN|apply Kd.R_drew));exact qbe.out) hb) (Kd.R_base ho0)) (Kd.R_base ho1)) (Kd.R_base ho2)) (fun _ h_=>h_.1));have n2_:=Q1.mk (Kd.R_mono (Kd.R_told (Kd.R_told (Kd.R_told (Kd.R_old (by (with_reducible repeat (first|apply Kd.R_alloc|apply Kd.R_drewN|apply Kd.R_drew));exact qbf.out) hb) (Kd.R_base ho0)) (Kd.R_base ho1)) (Kd.R_base ho2)) (fun _ h_=>h_.1));have n3_:=Q1.mk (Kd.R_lower (Kd.R_new' (Kd.R_new' (Kd.R_new' (Kd.R_newM (M:=fun k_=>(w.heap.size≤k_)) ho0 (Qf (by repeat (first|(with_reducible first|exact HB.out|apply Q2|apply Q0|apply Q3|refine Q7 ?_ Jw.out)|exact HB.out))) (fun k_ h_=>h_)) (Kd.R_lt (by (with_reducible repeat (first|apply Kd.R_alloc|apply Kd.R_drewN|apply Kd.R_drew));exact qbd.out))) (Kd.R_lt (by (with_reducible repeat (first|apply Kd.R_alloc|apply Kd.R_drewN|apply Kd.R_drew));exact qbe.out))) (Kd.R_lt (by (with_reducible repeat (first|apply Kd.R_alloc|apply Kd.R_drewN|apply Kd.R_drew));exact qbf.out))) (Qf (by repeat (first|(with_reducible first|exact HB.out|apply Q2|apply Q0|apply Q3|refine Q7 ?_ Jw.out)|exact HB.out))));have n4_:=Q1.mk (Kd.R_lower (Kd.R_new' (Kd.R_new' (Kd.R_new' (Kd.R_newM (M:=fun k_=>(w.heap.size≤k_)) ho1 (Qf (by repeat (first|(with_reducible first|exact HB.out|apply Q2|apply Q0|apply Q3|refine Q7 ?_ Jw.out)|exact HB.out))) (fun k_ h_=>h_)) (Kd.R_lt (by (with_reducible repeat (first|apply Kd.R_alloc|apply Kd.R_drewN|apply Kd.R_drew));exact qbd.out))) (Kd.R_lt (by (with_reducible repeat (first|apply Kd.R_alloc|apply Kd.R_drewN|apply Kd.R_drew));exact qbe.out))) (Kd.R_lt (by (with_reducible repeat (first|apply Kd.R_alloc|apply Kd.R_drewN|apply Kd.R_drew));exact qbf.out))) (Qf (by repeat (first|(with_reducible first|exact HB.out|apply Q2|apply Q0|apply Q3|refine Q7 ?_ Jw.out)|exact HB.out))));have n5_:=Q1.mk (Kd.R_lower (Kd.R_new' (Kd.R_new' (Kd.R_new' (Kd.R_newM (M:=fun k_=>(w.heap.size≤k_)) ho2 (Qf (by repeat (first|(with_reducible first|exact HB.out|apply Q2|apply Q0|apply Q3|refine Q7 ?_ Jw.out)|exact HB.out))) (fun k_ h_=>h_)) (Kd.R_lt (by (with_reducible repeat (first|apply Kd.R_alloc|apply Kd.R_drewN|apply Kd.R_drew));exact qbd.out))) (Kd.R_lt (by (with_reducible repeat (first|apply Kd.R_alloc|apply Kd.R_drewN|apply Kd.R_drew));exact qbe.out))) (Kd.R_lt (by (with_reducible repeat (first|apply Kd.R_alloc|apply Kd.R_drewN|apply Kd.R_drew));exact qbf.out))) (Qf (by repeat (first|(with_reducible first|exact HB.out|apply Q2|apply Q0|apply Q3|refine Q7 ?_ Jw.out)|exact HB.out))));have n6_:=Q1.mk (Qg (g:=Zm) (by (with_reducible repeat (first|refine Q5 ?_ _|refine Q9 ?_|refine Q4 ?_ _));exact Zq.out) hb);have n7_:=Q1.mk (Qi (by repeat (first|(with_reducible first|exact HB.out|apply Q2|apply Q0|apply Q3|refine Q7 ?_ Jw.out)|exact HB.out)) hb);clear qbd qbe qbf Zq HB;have qbd:=n0_;have qbe:=n1_;have qbf:=n2_;have qlg:=n3_;have qlh:=n4_;have qli:=n5_;have Zq:=n6_;have HB:=n7_;clear n0_ n1_ n2_ n3_ n4_ n5_ n6_ n7_;(try clear hb);(try clear hb2);(try clear hk);(try clear hi);(try clear ho0);(try clear ho1);(try clear ho2);obtain ⟨Ao6,co6,eo6⟩:=Kd.R_slice qbd.out;subst eo6;obtain ⟨Ao7,co7,eo7⟩:=Kd.R_slice qbe.out;subst eo7;obtain ⟨Ao8,co8,eo8⟩:=Kd.R_slice qbf.out;subst eo8;obtain ⟨Ao9,co9,eo9⟩:=Kd.R_slice qlg.out;subst eo9;obtain ⟨Xg,Xq,qoQ⟩:=Kd.R_slice qlh.out;subst qoQ;obtain ⟨qwq,qxn,qF1⟩:=Kd.R_slice qli.out;subst qF1)|((with_reducible refine QR (N:=3) rfl ?_);refine Kd.N_lit k39 _ 39 ?hg (N':=3) ?hd (xs:=([(⟨qg9,qha,qhb,qhc,qhd⟩:S39),(⟨qjl,qjm,qjn,qjo,qjp⟩:S39)]:List (S39))) (inner:=[.slice Ao6 qg9.length co6,.slice Ao7 qha.length co7,.slice Ao8 qhb.length co8,.int .i64 qhc,.int .i64 qhd,.slice Ao9 qjl.length co9,.slice Xg qjm.length Xq,.slice qwq qjn.length qxn,.int .i64 qjo,.int .i64 qjp]) (ok:=(fun k_=>(w.heap.size≤k_)∧k_≠Zm)) (okp:=(fun k_=>(w.heap.size≤k_)∧k_≠Zm)) ?hr ?hp (fun _ hk=>hk) ((show ∀ k_,w5.heap.size≤k_→(fun k_=>(w.heap.size≤k_)∧k_≠Zm) k_ from fun k_ hk=>⟨(Nat.le_trans (Qf (by repeat (first|(with_reducible first|exact HB.out|apply Q2|apply Q0|apply Q3|refine Q7 ?_ Jw.out)|exact HB.out))) hk),Kd.freshB (g:=Zm) (by (with_reducible repeat (first|refine Q5 ?_ _|refine Q9 ?_|refine Q4 ?_ _));exact Zq.out) k_ hk⟩) _ (Nat.le_refl _)) (Below.refl _ _) (Nat.le_refl _) (by simp) ?_;(case hd=>rfl);(case hg=>rfl);(case hr=>first|(go_simp;done)|(go_simp;rfl));(case hp=>exact (Reps.c5 (show Kd.FK k39 _ _ (⟨qg9,qha,qhb,qhc,qhd⟩:S39) [.slice Ao6 qg9.length co6,.slice Ao7 qha.length co7,.slice Ao8 qhb.length co8,.int .i64 qhc,.int .i64 qhd] from (qmR _ _ (⟨qg9,qha,qhb,qhc,qhd⟩:S39) (Kd.R_reads' (Kd.R_mono (ok':=(fun k_=>(w.heap.size≤k_)∧k_≠Zm)) (Kd.R_types (qbd.out) Zq.out (by decide)) (fun k_ hk=>⟨hk.1.1.1.1.1,hk.2⟩))).2.1 (Kd.R_F (Kd.R_mono (ok':=(fun k_=>(w.heap.size≤k_)∧k_≠Zm)) (Kd.R_types (qbd.out) Zq.out (by decide)) (fun k_ hk=>⟨hk.1.1.1.1.1,hk.2⟩))) (Kd.R_reads' (Kd.R_mono (ok':=(fun k_=>(w.heap.size≤k_)∧k_≠Zm)) (Kd.R_types (qbe.out) Zq.out (by decide)) (fun k_ hk=>⟨hk.1.1.1.1.1,hk.2⟩))).2.1 (Kd.R_F (Kd.R_mono (ok':=(fun k_=>(w.heap.size≤k_)∧k_≠Zm)) (Kd.R_types (qbe.out) Zq.out (by decide)) (fun k_ hk=>⟨hk.1.1.1.1.1,hk.2⟩))) (Kd.R_reads' (Kd.R_mono (ok':=(fun k_=>(w.heap.size≤k_)∧k_≠Zm)) (Kd.R_types (qbf.out) Zq.out (by decide)) (fun k_ hk=>⟨hk.1.1.1.1.1,hk.2⟩))).2.1 (Kd.R_F (Kd.R_mono (ok':=(fun k_=>(w.heap.size≤k_)∧k_≠Zm)) (Kd.R_types (qbf.out) Zq.out (by decide)) (fun k_ hk=>⟨hk.1.1.1.1.1,hk.2⟩))))) (Reps.c5 (show Kd.FK k39 _ _ (⟨qjl,qjm,qjn,qjo,qjp⟩:S39) [.slice Ao9 qjl.length co9,.slice Xg qjm.length Xq,.slice qwq qjn.length qxn,.int .i64 qjo,.int .i64 qjp] from (qmR _ _ (⟨qjl,qjm,qjn,qjo,qjp⟩:S39) (Kd.R_reads' (Kd.R_mono (ok':=(fun k_=>(w.heap.size≤k_)∧k_≠Zm)) (Kd.R_types (qlg.out) Zq.out (by decide)) (fun k_ hk=>⟨hk.1.1.1.1.1,hk.2⟩))).2.1 (Kd.R_F (Kd.R_mono (ok':=(fun k_=>(w.heap.size≤k_)∧k_≠Zm)) (Kd.R_types (qlg.out) Zq.out (by decide)) (fun k_ hk=>⟨hk.1.1.1.1.1,hk.2⟩))) (Kd.R_reads' (Kd.R_mono (ok':=(fun k_=>(w.heap.size≤k_)∧k_≠Zm)) (Kd.R_types (qlh.out) Zq.out (by decide)) (fun k_ hk=>⟨hk.1.1.1.1.1,hk.2⟩))).2.1 (Kd.R_F (Kd.R_mono (ok':=(fun k_=>(w.heap.size≤k_)∧k_≠Zm)) (Kd.R_types (qlh.out) Zq.out (by decide)) (fun k_ hk=>⟨hk.1.1.1.1.1,hk.2⟩))) (Kd.R_reads' (Kd.R_mono (ok':=(fun k_=>(w.heap.size≤k_)∧k_≠Zm)) (Kd.R_types (qli.out) Zq.out (by decide)) (fun k_ hk=>⟨hk.1.1.1.1.1,hk.2⟩))).2.1 (Kd.R_F (Kd.R_mono (ok':=(fun k_=>(w.heap.size≤k_)∧k_≠Zm)) (Kd.R_types (qli.out) Zq.out (by decide)) (fun k_ hk=>⟨hk.1.1.1.1.1,hk.2⟩))))) (Reps.none _ _))));intro Xe w12 qpc hb hg_ hnew_;clear hg_ hnew_;(first|rw [← qtm.out] at qpc|(simp only [Int.reduceToNat] at qpc;rw [← qtm.out] at qpc));have n0_:=Q1.mk (Kd.N_lower qpc (Qf (by repeat (first|(with_reducible first|exact HB.out|apply Q2|apply Q0|apply Q3|refine Q7 ?_ Jw.out)|exact HB.out))));have n1_:=Q1.mk (Qg (g:=Zm) (by (with_reducible repeat (first|refine Q5 ?_ _|refine Q9 ?_|refine Q4 ?_ _));exact Zq.out) hb);have n2_:=Q1.mk (Qi (by repeat (first|(with_reducible first|exact HB.out|apply Q2|apply Q0|apply Q3|refine Q7 ?_ Jw.out)|exact HB.out)) hb);clear Zq HB qbd qbe qbf qlg qlh qli;have JW:=n0_;have Zq:=n1_;have HB:=n2_;clear n0_ n1_ n2_ hb qpc)|((with_reducible refine QR (N:=4) rfl ?_);refine Kd.R_lit (Kd.int .i64) _ 3 ?hg (N:=4) ?hd (xs:=([40,80]:List Int)) (inner:=[.int .i64 40,.int .i64 80]) (ok:=fun _=>True) (okp:=fun _=>True) ?hr ?hp (fun _ hk=>hk) trivial (Below.refl _ _) (Nat.le_refl _) (by simp) ?_;(case hd=>rfl);(case hg=>rfl);(case hr=>first|(go_simp;done)|(go_simp;rfl));(case hp=>exact (Reps.one (show Kd.M (Kd.int .i64) _ _ _ 40 [.int .i64 40] from rfl) (Reps.one (show Kd.M (Kd.int .i64) _ _ _ 80 [.int .i64 80] from rfl) (Reps.none _ _))));intro Xf w14 qnB hb hg_ hnew_;clear hg_ hnew_;(first|rw [← qtn.out] at qnB|(simp only [Int.reduceToNat] at qnB;rw [← qtn.out] at qnB));have n0_:=Q1.mk (Kd.N_elder' (by (with_reducible repeat (first|apply Kd.N_alloc|apply Kd.N_drewN|apply Kd.N_drew));exact JW.out) (Kd.R_base qnB) hb);have n1_:=Q1.mk (Kd.R_lower (Kd.R_newM (M:=fun k_=>(w.heap.size≤k_)) qnB (Qf (by repeat (first|(with_reducible first|exact HB.out|apply Q2|apply Q0|apply Q3|refine Q7 ?_ Jw.out)|exact HB.out))) (fun k_ h_=>h_)) (Qf (by repeat (first|(with_reducible first|exact HB.out|apply Q2|apply Q0|apply Q3|refine Q7 ?_ Jw.out)|exact HB.out))));have n2_:=Q1.mk (Qg (g:=Zm) (by (with_reducible repeat (first|refine Q5 ?_ _|refine Q9 ?_|refine Q4 ?_ _));exact Zq.out) hb);have n3_:=Q1.mk (Qi (by repeat (first|(with_reducible first|exact HB.out|apply Q2|apply Q0|apply Q3|refine Q7 ?_ Jw.out)|exact HB.out)) hb);clear JW Zq HB;have JW:=n0_;have GG:=n1_;have Zq:=n2_;have HB:=n3_;clear n0_ n1_ n2_ n3_ hb qnB)|((with_reducible refine QR (N:=5) rfl ?_);refine Kd.R_lit (Kd.int .i64) _ 3 ?hg (N:=5) ?hd (xs:=([90,80]:List Int)) (inner:=[.int .i64 90,.int .i64 80]) (ok:=fun _=>True) (okp:=fun _=>True) ?hr ?hp (fun _ hk=>hk) trivial (Below.refl _ _) (Nat.le_refl _) (by simp) ?_;(case hd=>rfl);(case hg=>rfl);(case hr=>first|(go_simp;done)|(go_simp;rfl));(case hp=>exact (Reps.one (show Kd.M (Kd.int .i64) _ _ _ 90 [.int .i64 90] from rfl) (Reps.one (show Kd.M (Kd.int .i64) _ _ _ 80 [.int .i64 80] from rfl) (Reps.none _ _))));intro qKD w16 qj3 hb hg_ hnew_;clear hg_ hnew_;(first|rw [← qto.out] at qj3|(simp only [Int.reduceToNat] at qj3;rw [← qto.out] at qj3));have n0_:=Q1.mk (Kd.N_elder' (by (with_reducible repeat (first|apply Kd.N_alloc|apply Kd.N_drewN|apply Kd.N_drew));exact JW.out) (Kd.R_base qj3) hb);have n1_:=Q1.mk (Kd.R_elder' (by (with_reducible repeat (first|apply Kd.R_alloc|apply Kd.R_drewN|apply Kd.R_drew));exact GG.out) (Kd.R_base qj3) hb);have n2_:=Q1.mk (Kd.R_lower (Kd.R_new' (Kd.R_newM (M:=fun k_=>(w.heap.size≤k_)) qj3 (Qf (by repeat (first|(with_reducible first|exact HB.out|apply Q2|apply Q0|apply Q3|refine Q7 ?_ Jw.out)|exact HB.out))) (fun k_ h_=>h_)) (Kd.R_lt (by (with_reducible repeat (first|apply Kd.R_alloc|apply Kd.R_drewN|apply Kd.R_drew));exact GG.out))) (Qf (by repeat (first|(with_reducible first|exact HB.out|apply Q2|apply Q0|apply Q3|refine Q7 ?_ Jw.out)|exact HB.out))));have n3_:=Q1.mk (Qg (g:=Zm) (by (with_reducible repeat (first|refine Q5 ?_ _|refine Q9 ?_|refine Q4 ?_ _));exact Zq.out) hb);have n4_:=Q1.mk (Qi (by repeat (first|(with_reducible first|exact HB.out|apply Q2|apply Q0|apply Q3|refine Q7 ?_ Jw.out)|exact HB.out)) hb);clear JW GG Zq HB;have JW:=n0_;have GG:=n1_;have qdv:=n2_;have Zq:=n3_;have HB:=n4_;clear n0_ n1_ n2_ n3_ n4_ hb qj3)|((with_reducible refine QR (N:=6) rfl ?_);refine Kd.R_lit (Kd.int .i64) _ 3 ?hg (N:=6) ?hd (xs:=([10,10]:List Int)) (inner:=[.int .i64 10,.int .i64 10]) (ok:=fun _=>True) (okp:=fun _=>True) ?hr ?hp (fun _ hk=>hk) trivial (Below.refl _ _) (Nat.le_refl _) (by simp) ?_;(case hd=>rfl);(case hg=>rfl);(case hr=>first|(go_simp;done)|(go_simp;rfl));(case hp=>exact (Reps.one (show Kd.M (Kd.int .i64) _ _ _ 10 [.int .i64 10] from rfl) (Reps.one (show Kd.M (Kd.int .i64) _ _ _ 10 [.int .i64 10] from rfl) (Reps.none _ _))));intro qKE w18 qih hb hg_ hnew_;clear hg_ hnew_;(first|rw [← qtp.out] at qih|(simp only [Int.reduceToNat] at qih;rw [← qtp.out] at qih));have n0_:=Q1.mk (Kd.N_elder' (by (with_reducible repeat (first|apply Kd.N_alloc|apply Kd.N_drewN|apply Kd.N_drew));exact JW.out) (Kd.R_base qih) hb);have n1_:=Q1.mk (Kd.R_elder' (by (with_reducible repeat (first|apply Kd.R_alloc|apply Kd.R_drewN|apply Kd.R_drew));exact GG.out) (Kd.R_base qih) hb);have n2_:=Q1.mk (Kd.R_elder' (by (with_reducible repeat (first|apply Kd.R_alloc|apply Kd.R_drewN|apply Kd.R_drew));exact qdv.out) (Kd.R_base qih) hb);have n3_:=Q1.mk (Kd.R_lower (Kd.R_new' (Kd.R_new' (Kd.R_newM (M:=fun k_=>(w.heap.size≤k_)) qih (Qf (by repeat (first|(with_reducible first|exact HB.out|apply Q2|apply Q0|apply Q3|refine Q7 ?_ Jw.out)|exact HB.out))) (fun k_ h_=>h_)) (Kd.R_lt (by (with_reducible repeat (first|apply Kd.R_alloc|apply Kd.R_drewN|apply Kd.R_drew));exact GG.out))) (Kd.R_lt (by (with_reducible repeat (first|apply Kd.R_alloc|apply Kd.R_drewN|apply Kd.R_drew));exact qdv.out))) (Qf (by repeat (first|(with_reducible first|exact HB.out|apply Q2|apply Q0|apply Q3|refine Q7 ?_ Jw.out)|exact HB.out))));have n4_:=Q1.mk (Qg (g:=Zm) (by (with_reducible repeat (first|refine Q5 ?_ _|refine Q9 ?_|refine Q4 ?_ _));exact Zq.out) hb);have n5_:=Q1.mk (Qi (by repeat (first|(with_reducible first|exact HB.out|apply Q2|apply Q0|apply Q3|refine Q7 ?_ Jw.out)|exact HB.out)) hb);clear JW GG qdv Zq HB;have JW:=n0_;have GG:=n1_;have qdv:=n2_;have qlj:=n3_;have Zq:=n4_;have HB:=n5_;clear n0_ n1_ n2_ n3_ n4_ n5_ hb qih;obtain ⟨qws,quG,qqD⟩:=Kd.R_slice qdv.out;subst qqD;obtain ⟨qud,qqy,quW⟩:=Kd.R_slice qlj.out;subst quW)|((with_reducible refine QR (N:=7) rfl ?_);refine Kd.N_lit (Kd.slice 3 (Kd.int .i64)) _ 37 ?hg (N':=7) ?hd (xs:=([qk8,qn6]:List (List Int))) (inner:=[.slice qws qk8.length quG,.slice qud qn6.length qqy]) (ok:=(fun k_=>(w.heap.size≤k_)∧some k_≠(Xe:Value).ownBlock∧some k_≠(Xf:Value).ownBlock∧k_≠Zm)) (okp:=(fun k_=>(w.heap.size≤k_)∧some k_≠(Xe:Value).ownBlock∧some k_≠(Xf:Value).ownBlock∧k_≠Zm)) ?hr ?hp (fun _ hk=>hk) ((show ∀ k_,w18.heap.size≤k_→(fun k_=>(w.heap.size≤k_)∧some k_≠(Xe:Value).ownBlock∧some k_≠(Xf:Value).ownBlock∧k_≠Zm) k_ from fun k_ hk=>⟨(Nat.le_trans (Qf (by repeat (first|(with_reducible first|exact HB.out|apply Q2|apply Q0|apply Q3|refine Q7 ?_ Jw.out)|exact HB.out))) hk),Kd.fresh' (Kd.N_lt (by (with_reducible repeat (first|apply Kd.N_alloc|apply Kd.N_drewN|apply Kd.N_drew));exact JW.out)) k_ hk,Kd.fresh' (Kd.R_lt (by (with_reducible repeat (first|apply Kd.R_alloc|apply Kd.R_drewN|apply Kd.R_drew));exact GG.out)) k_ hk,Kd.freshB (g:=Zm) (by (with_reducible repeat (first|refine Q5 ?_ _|refine Q9 ?_|refine Q4 ?_ _));exact Zq.out) k_ hk⟩) _ (Nat.le_refl _)) (Below.refl _ _) (Nat.le_refl _) (by simp) ?_;(case hd=>rfl);(case hg=>rfl);(case hr=>first|(go_simp;done)|(go_simp;rfl));(case hp=>exact (Reps.one (show Kd.FK (Kd.slice 3 (Kd.int .i64)) _ _ qk8 [.slice qws qk8.length quG] from (Kd.FK_slice_mk (Kd.R_reads' (Kd.R_mono (ok':=(fun k_=>(w.heap.size≤k_)∧some k_≠(Xe:Value).ownBlock∧some k_≠(Xf:Value).ownBlock∧k_≠Zm)) (Kd.R_types (Kd.R_apart' (qdv.out) (Kd.N_typed JW.out) (by decide)) Zq.out (by decide)) (fun k_ hk=>⟨hk.1.1.1.1.1,⟨hk.1.2,⟨hk.1.1.1.2,hk.2⟩⟩⟩))).2.1 (Kd.R_F (Kd.R_mono (ok':=(fun k_=>(w.heap.size≤k_)∧some k_≠(Xe:Value).ownBlock∧some k_≠(Xf:Value).ownBlock∧k_≠Zm)) (Kd.R_types (Kd.R_apart' (qdv.out) (Kd.N_typed JW.out) (by decide)) Zq.out (by decide)) (fun k_ hk=>⟨hk.1.1.1.1.1,⟨hk.1.2,⟨hk.1.1.1.2,hk.2⟩⟩⟩))))) (Reps.one (show Kd.FK (Kd.slice 3 (Kd.int .i64)) _ _ qn6 [.slice qud qn6.length qqy] from (Kd.FK_slice_mk (Kd.R_reads' (Kd.R_mono (ok':=(fun k_=>(w.heap.size≤k_)∧some k_≠(Xe:Value).ownBlock∧some k_≠(Xf:Value).ownBlock∧k_≠Zm)) (Kd.R_types (Kd.R_apart' (qlj.out) (Kd.N_typed JW.out) (by decide)) Zq.out (by decide)) (fun k_ hk=>⟨hk.1.1.1.1.1,⟨hk.1.2,⟨hk.1.1.1.2,hk.2⟩⟩⟩))).2.1 (Kd.R_F (Kd.R_mono (ok':=(fun k_=>(w.heap.size≤k_)∧some k_≠(Xe:Value).ownBlock∧some k_≠(Xf:Value).ownBlock∧k_≠Zm)) (Kd.R_types (Kd.R_apart' (qlj.out) (Kd.N_typed JW.out) (by decide)) Zq.out (by decide)) (fun k_ hk=>⟨hk.1.1.1.1.1,⟨hk.1.2,⟨hk.1.1.1.2,hk.2⟩⟩⟩))))) (Reps.none _ _))));intro qkZ w22 qnC hb hg_ hnew_;clear hg_ hnew_;(first|rw [← qtq.out] at qnC|(simp only [Int.reduceToNat] at qnC;rw [← qtq.out] at qnC));have n0_:=Q1.mk (Kd.N_elder' (by (with_reducible repeat (first|apply Kd.N_alloc|apply Kd.N_drewN|apply Kd.N_drew));exact JW.out) (Kd.N_base qnC) hb);have n1_:=Q1.mk (Kd.R_below (by (with_reducible repeat (first|apply Kd.R_alloc|apply Kd.R_drewN|apply Kd.R_drew));exact GG.out) hb);have n2_:=Q1.mk (Kd.N_lower qnC (Qf (by repeat (first|(with_reducible first|exact HB.out|apply Q2|apply Q0|apply Q3|refine Q7 ?_ Jw.out)|exact HB.out))));have n3_:=Q1.mk (Qg (g:=Zm) (by (with_reducible repeat (first|refine Q5 ?_ _|refine Q9 ?_|refine Q4 ?_ _));exact Zq.out) hb);have n4_:=Q1.mk (Qi (by repeat (first|(with_reducible first|exact HB.out|apply Q2|apply Q0|apply Q3|refine Q7 ?_ Jw.out)|exact HB.out)) hb);clear JW GG Zq HB qdv qlj;have JW:=n0_;have GG:=n1_;have Uh:=n2_;have Zq:=n3_;have HB:=n4_;clear n0_ n1_ n2_ n3_ n4_ hb qnC)|((with_reducible refine QR (N:=8) rfl ?_);refine Kd.R_lit (Kd.int .i64) _ 3 ?hg (N:=8) ?hd (xs:=([0,0]:List Int)) (inner:=[.int .i64 0,.int .i64 0]) (ok:=fun _=>True) (okp:=fun _=>True) ?hr ?hp (fun _ hk=>hk) trivial (Below.refl _ _) (Nat.le_refl _) (by simp) ?_;(case hd=>rfl);(case hg=>rfl);(case hr=>first|(go_simp;done)|(go_simp;rfl));(case hp=>exact (Reps.one (show Kd.M (Kd.int .i64) _ _ _ 0 [.int .i64 0] from rfl) (Reps.one (show Kd.M (Kd.int .i64) _ _ _ 0 [.int .i64 0] from rfl) (Reps.none _ _))));intro qKF w24 qii hb hg_ hnew_;clear hg_ hnew_;(first|rw [← qtr.out] at qii|(simp only [Int.reduceToNat] at qii;rw [← qtr.out] at qii));have n0_:=Q1.mk (Kd.N_elder' (by (with_reducible repeat (first|apply Kd.N_alloc|apply Kd.N_drewN|apply Kd.N_drew));exact JW.out) (Kd.R_base qii) hb);have n1_:=Q1.mk (Kd.R_elder' (by (with_reducible repeat (first|apply Kd.R_alloc|apply Kd.R_drewN|apply Kd.R_drew));exact GG.out) (Kd.R_base qii) hb);have n2_:=Q1.mk (Kd.N_elder' (by (with_reducible repeat (first|apply Kd.N_alloc|apply Kd.N_drewN|apply Kd.N_drew));exact Uh.out) (Kd.R_base qii) hb);have n3_:=Q1.mk (Kd.R_lower (Kd.R_new' (Kd.R_newM (M:=fun k_=>(w.heap.size≤k_)) qii (Qf (by repeat (first|(with_reducible first|exact HB.out|apply Q2|apply Q0|apply Q3|refine Q7 ?_ Jw.out)|exact HB.out))) (fun k_ h_=>h_)) (Kd.R_lt (by (with_reducible repeat (first|apply Kd.R_alloc|apply Kd.R_drewN|apply Kd.R_drew));exact GG.out))) (Qf (by repeat (first|(with_reducible first|exact HB.out|apply Q2|apply Q0|apply Q3|refine Q7 ?_ Jw.out)|exact HB.out))));have n4_:=Q1.mk (Qg (g:=Zm) (by (with_reducible repeat (first|refine Q5 ?_ _|refine Q9 ?_|refine Q4 ?_ _));exact Zq.out) hb);have n5_:=Q1.mk (Qi (by repeat (first|(with_reducible first|exact HB.out|apply Q2|apply Q0|apply Q3|refine Q7 ?_ Jw.out)|exact HB.out)) hb);clear JW GG Uh Zq HB;have JW:=n0_;have GG:=n1_;have Uh:=n2_;have qdw:=n3_;have Zq:=n4_;have HB:=n5_;clear n0_ n1_ n2_ n3_ n4_ n5_ hb qii)|((with_reducible refine QR (N:=9) rfl ?_);refine Kd.R_lit (Kd.int .i64) _ 3 ?hg (N:=9) ?hd (xs:=([0,0]:List Int)) (inner:=[.int .i64 0,.int .i64 0]) (ok:=fun _=>True) (okp:=fun _=>True) ?hr ?hp (fun _ hk=>hk) trivial (Below.refl _ _) (Nat.le_refl _) (by simp) ?_;(case hd=>rfl);(case hg=>rfl);(case hr=>first|(go_simp;done)|(go_simp;rfl));(case hp=>exact (Reps.one (show Kd.M (Kd.int .i64) _ _ _ 0 [.int .i64 0] from rfl) (Reps.one (show Kd.M (Kd.int .i64) _ _ _ 0 [.int .i64 0] from rfl) (Reps.none _ _))));intro qKG w26 qgN hb hg_ hnew_;clear hg_ hnew_;(first|rw [← qts.out] at qgN|(simp only [Int.reduceToNat] at qgN;rw [← qts.out] at qgN));have n0_:=Q1.mk (Kd.N_elder' (by (with_reducible repeat (first|apply Kd.N_alloc|apply Kd.N_drewN|apply Kd.N_drew));exact JW.out) (Kd.R_base qgN) hb);have n1_:=Q1.mk (Kd.R_elder' (by (with_reducible repeat (first|apply Kd.R_alloc|apply Kd.R_drewN|apply Kd.R_drew));exact GG.out) (Kd.R_base qgN) hb);have n2_:=Q1.mk (Kd.N_elder' (by (with_reducible repeat (first|apply Kd.N_alloc|apply Kd.N_drewN|apply Kd.N_drew));exact Uh.out) (Kd.R_base qgN) hb);have n3_:=Q1.mk (Kd.R_elder' (by (with_reducible repeat (first|apply Kd.R_alloc|apply Kd.R_drewN|apply Kd.R_drew));exact qdw.out) (Kd.R_base qgN) hb);have n4_:=Q1.mk (Kd.R_lower (Kd.R_new' (Kd.R_new' (Kd.R_newM (M:=fun k_=>(w.heap.size≤k_)) qgN (Qf (by repeat (first|(with_reducible first|exact HB.out|apply Q2|apply Q0|apply Q3|refine Q7 ?_ Jw.out)|exact HB.out))) (fun k_ h_=>h_)) (Kd.R_lt (by (with_reducible repeat (first|apply Kd.R_alloc|apply Kd.R_drewN|apply Kd.R_drew));exact GG.out))) (Kd.R_lt (by (with_reducible repeat (first|apply Kd.R_alloc|apply Kd.R_drewN|apply Kd.R_drew));exact qdw.out))) (Qf (by repeat (first|(with_reducible first|exact HB.out|apply Q2|apply Q0|apply Q3|refine Q7 ?_ Jw.out)|exact HB.out))));have n5_:=Q1.mk (Qg (g:=Zm) (by (with_reducible repeat (first|refine Q5 ?_ _|refine Q9 ?_|refine Q4 ?_ _));exact Zq.out) hb);have n6_:=Q1.mk (Qi (by repeat (first|(with_reducible first|exact HB.out|apply Q2|apply Q0|apply Q3|refine Q7 ?_ Jw.out)|exact HB.out)) hb);clear JW GG Uh qdw Zq HB;have JW:=n0_;have GG:=n1_;have Uh:=n2_;have qdw:=n3_;have qlk:=n4_;have Zq:=n5_;have HB:=n6_;clear n0_ n1_ n2_ n3_ n4_ n5_ n6_ hb qgN;obtain ⟨qp0,qqz,qqE⟩:=Kd.R_slice qdw.out;subst qqE;obtain ⟨qwt,qxp,qF3⟩:=Kd.R_slice qlk.out;subst qF3)|((with_reducible refine QR (N:=10) rfl ?_);refine Kd.N_lit (Kd.slice 3 (Kd.int .i64)) _ 37 ?hg (N':=10) ?hd (xs:=([qk9,qn7]:List (List Int))) (inner:=[.slice qp0 qk9.length qqz,.slice qwt qn7.length qxp]) (ok:=(fun k_=>(w.heap.size≤k_)∧some k_≠(Xe:Value).ownBlock∧some k_≠(Xf:Value).ownBlock∧some k_≠(qkZ:Value).ownBlock∧k_≠Zm)) (okp:=(fun k_=>(w.heap.size≤k_)∧some k_≠(Xe:Value).ownBlock∧some k_≠(Xf:Value).ownBlock∧some k_≠(qkZ:Value).ownBlock∧k_≠Zm)) ?hr ?hp (fun _ hk=>hk) ((show ∀ k_,w26.heap.size≤k_→(fun k_=>(w.heap.size≤k_)∧some k_≠(Xe:Value).ownBlock∧some k_≠(Xf:Value).ownBlock∧some k_≠(qkZ:Value).ownBlock∧k_≠Zm) k_ from fun k_ hk=>⟨(Nat.le_trans (Qf (by repeat (first|(with_reducible first|exact HB.out|apply Q2|apply Q0|apply Q3|refine Q7 ?_ Jw.out)|exact HB.out))) hk),Kd.fresh' (Kd.N_lt (by (with_reducible repeat (first|apply Kd.N_alloc|apply Kd.N_drewN|apply Kd.N_drew));exact JW.out)) k_ hk,Kd.fresh' (Kd.R_lt (by (with_reducible repeat (first|apply Kd.R_alloc|apply Kd.R_drewN|apply Kd.R_drew));exact GG.out)) k_ hk,Kd.fresh' (Kd.N_lt (by (with_reducible repeat (first|apply Kd.N_alloc|apply Kd.N_drewN|apply Kd.N_drew));exact Uh.out)) k_ hk,Kd.freshB (g:=Zm) (by (with_reducible repeat (first|refine Q5 ?_ _|refine Q9 ?_|refine Q4 ?_ _));exact Zq.out) k_ hk⟩) _ (Nat.le_refl _)) (Below.refl _ _) (Nat.le_refl _) (by simp) ?_;(case hd=>rfl);(case hg=>rfl);(case hr=>first|(go_simp;done)|(go_simp;rfl));(case hp=>exact (Reps.one (show Kd.FK (Kd.slice 3 (Kd.int .i64)) _ _ qk9 [.slice qp0 qk9.length qqz] from (Kd.FK_slice_mk (Kd.R_reads' (Kd.R_mono (ok':=(fun k_=>(w.heap.size≤k_)∧some k_≠(Xe:Value).ownBlock∧some k_≠(Xf:Value).ownBlock∧some k_≠(qkZ:Value).ownBlock∧k_≠Zm)) (Kd.R_types (Kd.R_apart' (Kd.R_apart' (qdw.out) (Kd.N_typed JW.out) (by decide)) (Kd.N_typed Uh.out) (by decide)) Zq.out (by decide)) (fun k_ hk=>⟨hk.1.1.1.1.1.1,⟨hk.1.1.2,⟨hk.1.1.1.1.2,⟨hk.1.2,hk.2⟩⟩⟩⟩))).2.1 (Kd.R_F (Kd.R_mono (ok':=(fun k_=>(w.heap.size≤k_)∧some k_≠(Xe:Value).ownBlock∧some k_≠(Xf:Value).ownBlock∧some k_≠(qkZ:Value).ownBlock∧k_≠Zm)) (Kd.R_types (Kd.R_apart' (Kd.R_apart' (qdw.out) (Kd.N_typed JW.out) (by decide)) (Kd.N_typed Uh.out) (by decide)) Zq.out (by decide)) (fun k_ hk=>⟨hk.1.1.1.1.1.1,⟨hk.1.1.2,⟨hk.1.1.1.1.2,⟨hk.1.2,hk.2⟩⟩⟩⟩))))) (Reps.one (show Kd.FK (Kd.slice 3 (Kd.int .i64)) _ _ qn7 [.slice qwt qn7.length qxp] from (Kd.FK_slice_mk (Kd.R_reads' (Kd.R_mono (ok':=(fun k_=>(w.heap.size≤k_)∧some k_≠(Xe:Value).ownBlock∧some k_≠(Xf:Value).ownBlock∧some k_≠(qkZ:Value).ownBlock∧k_≠Zm)) (Kd.R_types (Kd.R_apart' (Kd.R_apart' (qlk.out) (Kd.N_typed JW.out) (by decide)) (Kd.N_typed Uh.out) (by decide)) Zq.out (by decide)) (fun k_ hk=>⟨hk.1.1.1.1.1.1,⟨hk.1.1.2,⟨hk.1.1.1.1.2,⟨hk.1.2,hk.2⟩⟩⟩⟩))).2.1 (Kd.R_F (Kd.R_mono (ok':=(fun k_=>(w.heap.size≤k_)∧some k_≠(Xe:Value).ownBlock∧some k_≠(Xf:Value).ownBlock∧some k_≠(qkZ:Value).ownBlock∧k_≠Zm)) (Kd.R_types (Kd.R_apart' (Kd.R_apart' (qlk.out) (Kd.N_typed JW.out) (by decide)) (Kd.N_typed Uh.out) (by decide)) Zq.out (by decide)) (fun k_ hk=>⟨hk.1.1.1.1.1.1,⟨hk.1.1.2,⟨hk.1.1.1.1.2,⟨hk.1.2,hk.2⟩⟩⟩⟩))))) (Reps.none _ _))));intro qKH w30 qj4 hb hg_ hnew_;clear hg_ hnew_;(first|rw [← qtt.out] at qj4|(simp only [Int.reduceToNat] at qj4;rw [← qtt.out] at qj4));have n0_:=Q1.mk (Kd.N_elder' (by (with_reducible repeat (first|apply Kd.N_alloc|apply Kd.N_drewN|apply Kd.N_drew));exact JW.out) (Kd.N_base qj4) hb);have n1_:=Q1.mk (Kd.R_below (by (with_reducible repeat (first|apply Kd.R_alloc|apply Kd.R_drewN|apply Kd.R_drew));exact GG.out) hb);have n2_:=Q1.mk (Kd.N_elder' (by (with_reducible repeat (first|apply Kd.N_alloc|apply Kd.N_drewN|apply Kd.N_drew));exact Uh.out) (Kd.N_base qj4) hb);have n3_:=Q1.mk (Kd.N_lower qj4 (Qf (by repeat (first|(with_reducible first|exact HB.out|apply Q2|apply Q0|apply Q3|refine Q7 ?_ Jw.out)|exact HB.out))));have n4_:=Q1.mk (Qg (g:=Zm) (by (with_reducible repeat (first|refine Q5 ?_ _|refine Q9 ?_|refine Q4 ?_ _));exact Zq.out) hb);have n5_:=Q1.mk (Qi (by repeat (first|(with_reducible first|exact HB.out|apply Q2|apply Q0|apply Q3|refine Q7 ?_ Jw.out)|exact HB.out)) hb);clear JW GG Uh Zq HB qdw qlk;have JW:=n0_;have GG:=n1_;have Uh:=n2_;have qll:=n3_;have Zq:=n4_;have HB:=n5_;clear n0_ n1_ n2_ n3_ n4_ n5_ hb qj4;obtain ⟨qwu,qxq,qF4⟩:=Kd.N_slice Uh.out;subst qF4;obtain ⟨qp1,qqA,qqF⟩:=Kd.N_slice qll.out;subst qqF)|((with_reducible refine QR (N:=11) rfl ?_);refine Kd.N_lit (Kd.slice 37 (Kd.slice 3 (Kd.int .i64))) _ 63 ?hg (N':=11) ?hd (xs:=([qhL,qn8]:List (List (List Int)))) (inner:=[.slice qwu qhL.length qxq,.slice qp1 qn8.length qqA]) (ok:=(fun k_=>(w.heap.size≤k_)∧some k_≠(Xe:Value).ownBlock∧some k_≠(Xf:Value).ownBlock∧k_≠Zm)) (okp:=(fun k_=>(w.heap.size≤k_)∧some k_≠(Xe:Value).ownBlock∧some k_≠(Xf:Value).ownBlock∧k_≠Zm)) ?hr ?hp (fun _ hk=>hk) ((show ∀ k_,w30.heap.size≤k_→(fun k_=>(w.heap.size≤k_)∧some k_≠(Xe:Value).ownBlock∧some k_≠(Xf:Value).ownBlock∧k_≠Zm) k_ from fun k_ hk=>⟨(Nat.le_trans (Qf (by repeat (first|(with_reducible first|exact HB.out|apply Q2|apply Q0|apply Q3|refine Q7 ?_ Jw.out)|exact HB.out))) hk),Kd.fresh' (Kd.N_lt (by (with_reducible repeat (first|apply Kd.N_alloc|apply Kd.N_drewN|apply Kd.N_drew));exact JW.out)) k_ hk,Kd.fresh' (Kd.R_lt (by (with_reducible repeat (first|apply Kd.R_alloc|apply Kd.R_drewN|apply Kd.R_drew));exact GG.out)) k_ hk,Kd.freshB (g:=Zm) (by (with_reducible repeat (first|refine Q5 ?_ _|refine Q9 ?_|refine Q4 ?_ _));exact Zq.out) k_ hk⟩) _ (Nat.le_refl _)) (Below.refl _ _) (Nat.le_refl _) (by simp) ?_;(case hd=>rfl);(case hg=>rfl);(case hr=>first|(go_simp;done)|(go_simp;rfl));(case hp=>exact (Reps.one (show Kd.FK (Kd.slice 37 (Kd.slice 3 (Kd.int .i64))) _ _ qhL [.slice qwu qhL.length qxq] from (Kd.FK_slice_mk (Kd.N_reads' (Kd.N_mono (ok':=(fun k_=>(w.heap.size≤k_)∧some k_≠(Xe:Value).ownBlock∧some k_≠(Xf:Value).ownBlock∧k_≠Zm)) (Uh.out) (fun k_ hk=>⟨hk.1.1.1.1,⟨hk.1.1.1.2.1,⟨hk.1.1.1.2.2.1,hk.1.1.1.2.2.2⟩⟩⟩))).2.1 (Kd.N_F (Kd.N_mono (ok':=(fun k_=>(w.heap.size≤k_)∧some k_≠(Xe:Value).ownBlock∧some k_≠(Xf:Value).ownBlock∧k_≠Zm)) (Uh.out) (fun k_ hk=>⟨hk.1.1.1.1,⟨hk.1.1.1.2.1,⟨hk.1.1.1.2.2.1,hk.1.1.1.2.2.2⟩⟩⟩))))) (Reps.one (show Kd.FK (Kd.slice 37 (Kd.slice 3 (Kd.int .i64))) _ _ qn8 [.slice qp1 qn8.length qqA] from (Kd.FK_slice_mk (Kd.N_reads' (Kd.N_mono (ok':=(fun k_=>(w.heap.size≤k_)∧some k_≠(Xe:Value).ownBlock∧some k_≠(Xf:Value).ownBlock∧k_≠Zm)) (qll.out) (fun k_ hk=>⟨hk.1,⟨hk.2.1,⟨hk.2.2.1,hk.2.2.2.2⟩⟩⟩))).2.1 (Kd.N_F (Kd.N_mono (ok':=(fun k_=>(w.heap.size≤k_)∧some k_≠(Xe:Value).ownBlock∧some k_≠(Xf:Value).ownBlock∧k_≠Zm)) (qll.out) (fun k_ hk=>⟨hk.1,⟨hk.2.1,⟨hk.2.2.1,hk.2.2.2.2⟩⟩⟩))))) (Reps.none _ _))));intro qKI w34 qnD hb hg_ hnew_;clear hg_ hnew_;(first|rw [← qtu.out] at qnD|(simp only [Int.reduceToNat] at qnD;rw [← qtu.out] at qnD));have n0_:=Q1.mk (Kd.N_elder' (by (with_reducible repeat (first|apply Kd.N_alloc|apply Kd.N_drewN|apply Kd.N_drew));exact JW.out) (Kd.N_base qnD) hb);have n1_:=Q1.mk (Kd.R_below (by (with_reducible repeat (first|apply Kd.R_alloc|apply Kd.R_drewN|apply Kd.R_drew));exact GG.out) hb);have n2_:=Q1.mk (Kd.N_lower qnD (Qf (by repeat (first|(with_reducible first|exact HB.out|apply Q2|apply Q0|apply Q3|refine Q7 ?_ Jw.out)|exact HB.out))));have n3_:=Q1.mk (Qg (g:=Zm) (by (with_reducible repeat (first|refine Q5 ?_ _|refine Q9 ?_|refine Q4 ?_ _));exact Zq.out) hb);have n4_:=Q1.mk (Qi (by repeat (first|(with_reducible first|exact HB.out|apply Q2|apply Q0|apply Q3|refine Q7 ?_ Jw.out)|exact HB.out)) hb);clear JW GG Zq HB Uh qll;have JW:=n0_;have GG:=n1_;have qtd:=n2_;have Zq:=n3_;have HB:=n4_;clear n0_ n1_ n2_ n3_ n4_ hb qnD;obtain ⟨qp2,qqB,qF5⟩:=Kd.N_slice qtd.out;subst qF5;obtain ⟨qof,qoL,qF6⟩:=Kd.R_slice GG.out;subst qF6;obtain ⟨qnd,qnn,qF7⟩:=Kd.N_slice JW.out;subst qF7;have qlR:w34.cell? ⟨Zm,0,none⟩=some (.slice none 0 0):=(Q6 Zq.out 0).trans rfl;have qlS:w34.cell? ⟨Zm,1,none⟩=some (.slice none 0 0):=(Q6 Zq.out 1).trans rfl;have qlT:w34.cell? ⟨Zm,2,none⟩=some (.slice none 0 0):=(Q6 Zq.out 2).trans rfl;have qmc:=Q8 Zq.out 0;have qmd:=Q8 Zq.out 1;have qme:=Q8 Zq.out 2))
 refine bodyPost_ret (results_cell_row rfl _ _ Zm 47 #[.slice qnd qbM.length qnn,.slice qof qds.length qoL,.slice qp2 qpX.length qqB] (0,0) _ rfl (by (with_reducible repeat (first|refine Q5 ?_ _|refine Q9 ?_|refine Q4 ?_ _));refine QM (cs:=#[.slice qnd qbM.length qnn,.slice qof qds.length qoL,.slice none 0 0]) ?_ 2 _ rfl;(with_reducible repeat (first|refine Q5 ?_ _|refine Q9 ?_|refine Q4 ?_ _));refine QM (cs:=#[.slice qnd qbM.length qnn,.slice none 0 0,.slice none 0 0]) ?_ 1 _ rfl;(with_reducible repeat (first|refine Q5 ?_ _|refine Q9 ?_|refine Q4 ?_ _));refine QM (cs:=#[.slice none 0 0,.slice none 0 0,.slice none 0 0]) ?_ 0 _ rfl;(with_reducible repeat (first|refine Q5 ?_ _|refine Q9 ?_|refine Q4 ?_ _));exact Zq.out) Try.underlying47 rfl (by kernel_rfl)) rfl ?_
 exact ⟨_,_,_,by first|rfl|(simp [Qw,Qx]<;>rfl)|(simp [*,Qw,Qx]<;>rfl),by (with_reducible repeat (first|apply Kd.N_alloc|apply Kd.N_drewN|apply Kd.N_drew));exact Kd.N_mono (Kd.N_far (p:=⟨Zm,2,none⟩) (Kd.N_far (p:=⟨Zm,1,none⟩) (Kd.N_far (p:=⟨Zm,0,none⟩) (Kd.N_mono JW.out (fun k_ hk=>(⟨hk,hk.1.1.1.1.1.1.1.1.2⟩:_∧k_≠Zm))) (fun _ hk=>hk.2) (.slice qnd qbM.length qnn)) (fun _ hk=>hk.2) (.slice qof qds.length qoL)) (fun _ hk=>hk.2) (.slice qp2 qpX.length qqB)) (fun _ hk=>⟨hk.1.1.1.1.1.1.1.1.1.1,⟨hk.1.1.1.1.1.1.1.1.2,hk.1.2⟩⟩),by (with_reducible repeat (first|apply Kd.R_alloc|apply Kd.R_drewN|apply Kd.R_drew));exact Kd.R_mono (Kd.R_far (p:=⟨Zm,2,none⟩) (Kd.R_far (p:=⟨Zm,1,none⟩) (Kd.R_far (p:=⟨Zm,0,none⟩) (Kd.R_types GG.out Zq.out (by decide)) (fun _ hk=>hk.2) (.slice qnd qbM.length qnn)) (fun _ hk=>hk.2) (.slice qof qds.length qoL)) (fun _ hk=>hk.2) (.slice qp2 qpX.length qqB)) (fun _ hk=>hk.1.1.1.1.1.1),by (with_reducible repeat (first|apply Kd.N_alloc|apply Kd.N_drewN|apply Kd.N_drew));exact Kd.N_mono (Kd.N_far (p:=⟨Zm,2,none⟩) (Kd.N_far (p:=⟨Zm,1,none⟩) (Kd.N_far (p:=⟨Zm,0,none⟩) (Kd.N_mono qtd.out (fun k_ hk=>(⟨hk,hk.2.2.2⟩:_∧k_≠Zm))) (fun _ hk=>hk.2) (.slice qnd qbM.length qnn)) (fun _ hk=>hk.2) (.slice qof qds.length qoL)) (fun _ hk=>hk.2) (.slice qp2 qpX.length qqB)) (fun _ hk=>⟨hk.1.1,⟨hk.1.2.1,hk.1.2.2.1⟩⟩),by repeat (first|(with_reducible first|exact HB.out|apply Q2|apply Q0|apply Q3|refine Q7 ?_ Jw.out)|exact HB.out)⟩
end
section
attribute [local go_sem] YC YE Z2 Z3 Yr Ys YD YF
def K2.f  : Option ((List (S68))):=(QQ.f 2 2).bind fun qh4=>((QQ.f 3 4).bind fun qdB=>((QQ.f 4 6).bind fun qav=>(some (([(⟨30,(⟨qh4.1,qh4.2⟩:S25)⟩:S68),(⟨20,(⟨qdB.1,qdB.2⟩:S25)⟩:S68),(⟨10,(⟨qav.1,qav.2⟩:S25)⟩:S68)]:List (S68))))))
set_option maxHeartbeats 8000000 in
set_option maxRecDepth 100000 in
theorem K2.calls  (r:List (S68)) (w:World) (h:K2.f  = some r) :
  Calls Try.prog 59 #[] w fun e w' => ∃ v0_:Value,e = .returned (v0_)∧Kd.R k68 68 w' w.heap.size (fun _=>True) v0_ r∧Below w.heap.size w w':=by
 have qGR:=Try.underlying68
 have HB:=Q1.mk (Below.refl w.heap.size w)
 have H:((QQ.f 2 2).bind fun qh4=>((QQ.f 3 4).bind fun qdB=>((QQ.f 4 6).bind fun qav=>(some (([(⟨30,(⟨qh4.1,qh4.2⟩:S25)⟩:S68),(⟨20,(⟨qdB.1,qdB.2⟩:S25)⟩:S68),(⟨10,(⟨qav.1,qav.2⟩:S25)⟩:S68)]:List (S68)))))))=some r:=h
 clear h
 replace H:=Option.bind_eq_some_iff.mp H
 obtain ⟨⟨qfB,qfC⟩,A10,H⟩:=H
 replace H:((QQ.f 3 4).bind fun qdB=>((QQ.f 4 6).bind fun qav=>(some (([(⟨30,(⟨qfB,qfC⟩:S25)⟩:S68),(⟨20,(⟨qdB.1,qdB.2⟩:S25)⟩:S68),(⟨10,(⟨qav.1,qav.2⟩:S25)⟩:S68)]:List (S68))))))=some r:=H
 have A1:=Q1.mk A10
 clear A10
 replace H:=Option.bind_eq_some_iff.mp H
 obtain ⟨⟨qhe,qhf⟩,A20,H⟩:=H
 replace H:((QQ.f 4 6).bind fun qav=>(some (([(⟨30,(⟨qfB,qfC⟩:S25)⟩:S68),(⟨20,(⟨qhe,qhf⟩:S25)⟩:S68),(⟨10,(⟨qav.1,qav.2⟩:S25)⟩:S68)]:List (S68)))))=some r:=H
 have A2:=Q1.mk A20
 clear A20
 replace H:=Option.bind_eq_some_iff.mp H
 obtain ⟨⟨qjq,qjr⟩,A30,H⟩:=H
 replace H:(some (([(⟨30,(⟨qfB,qfC⟩:S25)⟩:S68),(⟨20,(⟨qhe,qhf⟩:S25)⟩:S68),(⟨10,(⟨qjq,qjr⟩:S25)⟩:S68)]:List (S68))))=some r:=H
 have A3:=Q1.mk A30
 clear A30
 obtain ⟨qGZ,qiA⟩:∃ y_:List (S68),y_=(([(⟨30,(⟨qfB,qfC⟩:S25)⟩:S68),(⟨20,(⟨qhe,qhf⟩:S25)⟩:S68),(⟨10,(⟨qjq,qjr⟩:S25)⟩:S68)]:List (S68))):=⟨_,rfl⟩
 replace H:(some qGZ)=some r:=by first|(rw [qiA];with_reducible exact H)|(have H2_:=(Option.bind_some _ _).symm.trans H;rw [qiA];with_reducible exact H2_)|(have H2_:=(Option.bind_some _ _).symm.trans H;with_reducible exact H2_)|with_reducible exact H|(rw [qiA];exact H)|exact H
 have qtv:=Q1.mk qiA
 clear qiA
 obtain rfl:=Option.some.inj H
 go_enter Try.func59,Try.ntmps59
 go_wp2_with (first|((with_reducible refine Qu (f:=43) rfl ?_);refine Yk (some 1) rfl rfl Try.func43 (by kernel_rfl) rfl #[.int .i64 2,.int .i64 2] rfl (by (try simp only [List.map_toArray,List.map_cons,List.map_nil]);first|done|rfl|(simp only [List.length_drop,List.length_take];rfl)) ?_;(with_reducible refine (QQ.calls 2 2 qfB qfC _ A1.out).mono ?_);rintro e w4 ⟨rfl,hb⟩;refine ⟨_,rfl,?_⟩;have n0_:=Q1.mk (Qi (by repeat (first|(with_reducible first|exact HB.out|apply Q2|apply Q0|apply Q3)|exact HB.out)) hb);clear HB;have HB:=n0_;clear n0_;(try clear hb);(try clear hb2);(try clear hk);(try clear hi))|((with_reducible refine Qu (f:=43) rfl ?_);refine Yk (some 3) rfl rfl Try.func43 (by kernel_rfl) rfl #[.int .i64 3,.int .i64 4] rfl (by (try simp only [List.map_toArray,List.map_cons,List.map_nil]);first|done|rfl|(simp only [List.length_drop,List.length_take];rfl)) ?_;(with_reducible refine (QQ.calls 3 4 qhe qhf _ A2.out).mono ?_);rintro e w5 ⟨rfl,hb⟩;refine ⟨_,rfl,?_⟩;have n0_:=Q1.mk (Qi (by repeat (first|(with_reducible first|exact HB.out|apply Q2|apply Q0|apply Q3)|exact HB.out)) hb);clear HB;have HB:=n0_;clear n0_;(try clear hb);(try clear hb2);(try clear hk);(try clear hi))|((with_reducible refine Qu (f:=43) rfl ?_);refine Yk (some 5) rfl rfl Try.func43 (by kernel_rfl) rfl #[.int .i64 4,.int .i64 6] rfl (by (try simp only [List.map_toArray,List.map_cons,List.map_nil]);first|done|rfl|(simp only [List.length_drop,List.length_take];rfl)) ?_;(with_reducible refine (QQ.calls 4 6 qjq qjr _ A3.out).mono ?_);rintro e w6 ⟨rfl,hb⟩;refine ⟨_,rfl,?_⟩;have n0_:=Q1.mk (Qi (by repeat (first|(with_reducible first|exact HB.out|apply Q2|apply Q0|apply Q3)|exact HB.out)) hb);clear HB;have HB:=n0_;clear n0_;(try clear hb);(try clear hb2);(try clear hk);(try clear hi))|((with_reducible refine QR (N:=7) rfl ?_);refine Kd.R_lit k68 _ 68 ?hg (N:=7) ?hd (xs:=([(⟨30,(⟨qfB,qfC⟩:S25)⟩:S68),(⟨20,(⟨qhe,qhf⟩:S25)⟩:S68),(⟨10,(⟨qjq,qjr⟩:S25)⟩:S68)]:List (S68))) (inner:=[.int .i64 30,.int .i64 qfB,.int .i64 qfC,.int .i64 20,.int .i64 qhe,.int .i64 qhf,.int .i64 10,.int .i64 qjq,.int .i64 qjr]) (ok:=fun _=>True) (okp:=fun _=>True) ?hr ?hp (fun _ hk=>hk) trivial (Below.refl _ _) (Nat.le_refl _) (by simp) ?_;(case hd=>rfl);(case hg=>rfl);(case hr=>first|(go_simp;done)|(go_simp;rfl));(case hp=>exact (Reps.c3 (show Kd.M k68 _ _ _ (⟨30,(⟨qfB,qfC⟩:S25)⟩:S68) [.int .i64 30,.int .i64 qfB,.int .i64 qfC] from (qgV _ _ _ (⟨30,(⟨qfB,qfC⟩:S25)⟩:S68) )) (Reps.c3 (show Kd.M k68 _ _ _ (⟨20,(⟨qhe,qhf⟩:S25)⟩:S68) [.int .i64 20,.int .i64 qhe,.int .i64 qhf] from (qgV _ _ _ (⟨20,(⟨qhe,qhf⟩:S25)⟩:S68) )) (Reps.c3 (show Kd.M k68 _ _ _ (⟨10,(⟨qjq,qjr⟩:S25)⟩:S68) [.int .i64 10,.int .i64 qjq,.int .i64 qjr] from (qgV _ _ _ (⟨10,(⟨qjq,qjr⟩:S25)⟩:S68) )) (Reps.none _ _)))));intro qKJ w7 ho8 hb hg_ hnew_;clear hg_ hnew_;(first|rw [← qtv.out] at ho8|(simp only [Int.reduceToNat] at ho8;rw [← qtv.out] at ho8));have n0_:=Q1.mk (Kd.R_lower ho8 (Qf (by repeat (first|(with_reducible first|exact HB.out|apply Q2|apply Q0|apply Q3)|exact HB.out))));have n1_:=Q1.mk (Qi (by repeat (first|(with_reducible first|exact HB.out|apply Q2|apply Q0|apply Q3)|exact HB.out)) hb);clear HB;have qwF:=n0_;have HB:=n1_;clear n0_ n1_ hb ho8))
 go_ret
 exact ⟨_,by first|rfl|(simp [Qw,Qx]<;>rfl)|(simp [*,Qw,Qx]<;>rfl),by (with_reducible repeat (first|apply Kd.R_alloc|apply Kd.R_drewN|apply Kd.R_drew));exact qwF.out,by repeat (first|(with_reducible first|exact HB.out|apply Q2|apply Q0|apply Q3)|exact HB.out)⟩
end
section
attribute [local go_sem] YC YE Z2 Z3 Yr Ys YD YF
def KD.f  : Option ((List (S25))):=(QQ.f 45 50).bind fun qh5=>((QQ.f 50 55).bind fun qdC=>(some (([(⟨qh5.1,qh5.2⟩:S25),(⟨qdC.1,qdC.2⟩:S25)]:List (S25)))))
set_option maxHeartbeats 8000000 in
set_option maxRecDepth 100000 in
theorem KD.calls  (r:List (S25)) (w:World) (h:KD.f  = some r) :
  Calls Try.prog 60 #[] w fun e w' => ∃ v0_:Value,e = .returned (v0_)∧Kd.R k25 25 w' w.heap.size (fun _=>True) v0_ r∧Below w.heap.size w w':=by
 have HB:=Q1.mk (Below.refl w.heap.size w)
 have H:((QQ.f 45 50).bind fun qh5=>((QQ.f 50 55).bind fun qdC=>(some (([(⟨qh5.1,qh5.2⟩:S25),(⟨qdC.1,qdC.2⟩:S25)]:List (S25))))))=some r:=h
 clear h
 replace H:=Option.bind_eq_some_iff.mp H
 obtain ⟨⟨qhg,qhh⟩,A10,H⟩:=H
 replace H:((QQ.f 50 55).bind fun qdC=>(some (([(⟨qhg,qhh⟩:S25),(⟨qdC.1,qdC.2⟩:S25)]:List (S25)))))=some r:=H
 have A1:=Q1.mk A10
 clear A10
 replace H:=Option.bind_eq_some_iff.mp H
 obtain ⟨⟨qjs,qjt⟩,A20,H⟩:=H
 replace H:(some (([(⟨qhg,qhh⟩:S25),(⟨qjs,qjt⟩:S25)]:List (S25))))=some r:=H
 have A2:=Q1.mk A20
 clear A20
 obtain ⟨qG0,qiB⟩:∃ y_:List (S25),y_=(([(⟨qhg,qhh⟩:S25),(⟨qjs,qjt⟩:S25)]:List (S25))):=⟨_,rfl⟩
 replace H:(some qG0)=some r:=by first|(rw [qiB];with_reducible exact H)|(have H2_:=(Option.bind_some _ _).symm.trans H;rw [qiB];with_reducible exact H2_)|(have H2_:=(Option.bind_some _ _).symm.trans H;with_reducible exact H2_)|with_reducible exact H|(rw [qiB];exact H)|exact H
 have qtw:=Q1.mk qiB
 clear qiB
 obtain rfl:=Option.some.inj H
 go_enter Try.func60,Try.ntmps60
 go_wp2_with (first|((with_reducible refine Qu (f:=43) rfl ?_);refine Yk (some 1) rfl rfl Try.func43 (by kernel_rfl) rfl #[.int .i64 45,.int .i64 50] rfl (by (try simp only [List.map_toArray,List.map_cons,List.map_nil]);first|done|rfl|(simp only [List.length_drop,List.length_take];rfl)) ?_;(with_reducible refine (QQ.calls 45 50 qhg qhh _ A1.out).mono ?_);rintro e w3 ⟨rfl,hb⟩;refine ⟨_,rfl,?_⟩;have n0_:=Q1.mk (Qi (by repeat (first|(with_reducible first|exact HB.out|apply Q2|apply Q0|apply Q3)|exact HB.out)) hb);clear HB;have HB:=n0_;clear n0_;(try clear hb);(try clear hb2);(try clear hk);(try clear hi))|((with_reducible refine Qu (f:=43) rfl ?_);refine Yk (some 2) rfl rfl Try.func43 (by kernel_rfl) rfl #[.int .i64 50,.int .i64 55] rfl (by (try simp only [List.map_toArray,List.map_cons,List.map_nil]);first|done|rfl|(simp only [List.length_drop,List.length_take];rfl)) ?_;(with_reducible refine (QQ.calls 50 55 qjs qjt _ A2.out).mono ?_);rintro e w4 ⟨rfl,hb⟩;refine ⟨_,rfl,?_⟩;have n0_:=Q1.mk (Qi (by repeat (first|(with_reducible first|exact HB.out|apply Q2|apply Q0|apply Q3)|exact HB.out)) hb);clear HB;have HB:=n0_;clear n0_;(try clear hb);(try clear hb2);(try clear hk);(try clear hi))|((with_reducible refine QR (N:=3) rfl ?_);refine Kd.R_lit k25 _ 25 ?hg (N:=3) ?hd (xs:=([(⟨qhg,qhh⟩:S25),(⟨qjs,qjt⟩:S25)]:List (S25))) (inner:=[.int .i64 qhg,.int .i64 qhh,.int .i64 qjs,.int .i64 qjt]) (ok:=fun _=>True) (okp:=fun _=>True) ?hr ?hp (fun _ hk=>hk) trivial (Below.refl _ _) (Nat.le_refl _) (by simp) ?_;(case hd=>rfl);(case hg=>rfl);(case hr=>first|(go_simp;done)|(go_simp;rfl));(case hp=>exact (Reps.c2 (show Kd.M k25 _ _ _ (⟨qhg,qhh⟩:S25) [.int .i64 qhg,.int .i64 qhh] from (Wl _ _ _ (⟨qhg,qhh⟩:S25) )) (Reps.c2 (show Kd.M k25 _ _ _ (⟨qjs,qjt⟩:S25) [.int .i64 qjs,.int .i64 qjt] from (Wl _ _ _ (⟨qjs,qjt⟩:S25) )) (Reps.none _ _))));intro qKK w5 ho6 hb hg_ hnew_;clear hg_ hnew_;(first|rw [← qtw.out] at ho6|(simp only [Int.reduceToNat] at ho6;rw [← qtw.out] at ho6));have n0_:=Q1.mk (Kd.R_lower ho6 (Qf (by repeat (first|(with_reducible first|exact HB.out|apply Q2|apply Q0|apply Q3)|exact HB.out))));have n1_:=Q1.mk (Qi (by repeat (first|(with_reducible first|exact HB.out|apply Q2|apply Q0|apply Q3)|exact HB.out)) hb);clear HB;have qwG:=n0_;have HB:=n1_;clear n0_ n1_ hb ho6))
 go_ret
 exact ⟨_,by first|rfl|(simp [Qw,Qx]<;>rfl)|(simp [*,Qw,Qx]<;>rfl),by (with_reducible repeat (first|apply Kd.R_alloc|apply Kd.R_drewN|apply Kd.R_drew));exact qwG.out,by repeat (first|(with_reducible first|exact HB.out|apply Q2|apply Q0|apply Q3)|exact HB.out)⟩
end
section
attribute [local go_sem] YC YE Z2 Z3 Yr Ys YD YF
def Kp.f  : Option ((List (List (S25)))):=(QQ.f 60 70).bind fun qh6=>((QQ.f 30 40).bind fun qdD=>((QQ.f 20 30).bind fun WM=>((QQ.f 70 80).bind fun UO=>(some (([(([(⟨qh6.1,qh6.2⟩:S25),(⟨qdD.1,qdD.2⟩:S25)]:List (S25))),(([(⟨WM.1,WM.2⟩:S25),(⟨UO.1,UO.2⟩:S25)]:List (S25)))]:List (List (S25))))))))
set_option maxHeartbeats 8000000 in
set_option maxRecDepth 100000 in
theorem Kp.calls  (r:List (List (S25))) (w:World) (h:Kp.f  = some r) :
  Calls Try.prog 61 #[] w fun e w' => ∃ v0_:Value,e = .returned (v0_)∧Kd.N (Kd.slice 25 k25) 32 w' w.heap.size (fun k_=>(w.heap.size≤k_)) v0_ r∧Below w.heap.size w w':=by
 have HB:=Q1.mk (Below.refl w.heap.size w)
 have H:((QQ.f 60 70).bind fun qh6=>((QQ.f 30 40).bind fun qdD=>((QQ.f 20 30).bind fun WM=>((QQ.f 70 80).bind fun UO=>(some (([(([(⟨qh6.1,qh6.2⟩:S25),(⟨qdD.1,qdD.2⟩:S25)]:List (S25))),(([(⟨WM.1,WM.2⟩:S25),(⟨UO.1,UO.2⟩:S25)]:List (S25)))]:List (List (S25)))))))))=some r:=h
 clear h
 replace H:=Option.bind_eq_some_iff.mp H
 obtain ⟨⟨qhi,qhj⟩,A10,H⟩:=H
 replace H:((QQ.f 30 40).bind fun qdD=>((QQ.f 20 30).bind fun WM=>((QQ.f 70 80).bind fun UO=>(some (([(([(⟨qhi,qhj⟩:S25),(⟨qdD.1,qdD.2⟩:S25)]:List (S25))),(([(⟨WM.1,WM.2⟩:S25),(⟨UO.1,UO.2⟩:S25)]:List (S25)))]:List (List (S25))))))))=some r:=H
 have A1:=Q1.mk A10
 clear A10
 replace H:=Option.bind_eq_some_iff.mp H
 obtain ⟨⟨qju,qjv⟩,A20,H⟩:=H
 replace H:((QQ.f 20 30).bind fun WM=>((QQ.f 70 80).bind fun UO=>(some (([(([(⟨qhi,qhj⟩:S25),(⟨qju,qjv⟩:S25)]:List (S25))),(([(⟨WM.1,WM.2⟩:S25),(⟨UO.1,UO.2⟩:S25)]:List (S25)))]:List (List (S25)))))))=some r:=H
 have A2:=Q1.mk A20
 clear A20
 obtain ⟨qhM,qiC⟩:∃ y_:List (S25),y_=(([(⟨qhi,qhj⟩:S25),(⟨qju,qjv⟩:S25)]:List (S25))):=⟨_,rfl⟩
 replace H:((QQ.f 20 30).bind fun WM=>((QQ.f 70 80).bind fun UO=>(some (([qhM,(([(⟨WM.1,WM.2⟩:S25),(⟨UO.1,UO.2⟩:S25)]:List (S25)))]:List (List (S25)))))))=some r:=by first|(rw [qiC];with_reducible exact H)|(have H2_:=(Option.bind_some _ _).symm.trans H;rw [qiC];with_reducible exact H2_)|(have H2_:=(Option.bind_some _ _).symm.trans H;with_reducible exact H2_)|with_reducible exact H|(rw [qiC];exact H)|exact H
 have qtx:=Q1.mk qiC
 clear qiC
 replace H:=Option.bind_eq_some_iff.mp H
 obtain ⟨⟨qhk,qhl⟩,A30,H⟩:=H
 replace H:((QQ.f 70 80).bind fun UO=>(some (([qhM,(([(⟨qhk,qhl⟩:S25),(⟨UO.1,UO.2⟩:S25)]:List (S25)))]:List (List (S25))))))=some r:=H
 have A3:=Q1.mk A30
 clear A30
 replace H:=Option.bind_eq_some_iff.mp H
 obtain ⟨⟨qjw,qjx⟩,A40,H⟩:=H
 replace H:(some (([qhM,(([(⟨qhk,qhl⟩:S25),(⟨qjw,qjx⟩:S25)]:List (S25)))]:List (List (S25)))))=some r:=H
 have A4:=Q1.mk A40
 clear A40
 obtain ⟨qn9,qiD⟩:∃ y_:List (S25),y_=(([(⟨qhk,qhl⟩:S25),(⟨qjw,qjx⟩:S25)]:List (S25))):=⟨_,rfl⟩
 replace H:(some (([qhM,qn9]:List (List (S25)))))=some r:=by first|(rw [qiD];with_reducible exact H)|(have H2_:=(Option.bind_some _ _).symm.trans H;rw [qiD];with_reducible exact H2_)|(have H2_:=(Option.bind_some _ _).symm.trans H;with_reducible exact H2_)|with_reducible exact H|(rw [qiD];exact H)|exact H
 have qty:=Q1.mk qiD
 clear qiD
 obtain ⟨qG1,qiE⟩:∃ y_:List (List (S25)),y_=(([qhM,qn9]:List (List (S25)))):=⟨_,rfl⟩
 replace H:(some qG1)=some r:=by first|(rw [qiE];with_reducible exact H)|(have H2_:=(Option.bind_some _ _).symm.trans H;rw [qiE];with_reducible exact H2_)|(have H2_:=(Option.bind_some _ _).symm.trans H;with_reducible exact H2_)|with_reducible exact H|(rw [qiE];exact H)|exact H
 have qtz:=Q1.mk qiE
 clear qiE
 obtain rfl:=Option.some.inj H
 go_enter Try.func61,Try.ntmps61
 go_wp2_with (first|((with_reducible refine Qu (f:=43) rfl ?_);refine Yk (some 1) rfl rfl Try.func43 (by kernel_rfl) rfl #[.int .i64 60,.int .i64 70] rfl (by (try simp only [List.map_toArray,List.map_cons,List.map_nil]);first|done|rfl|(simp only [List.length_drop,List.length_take];rfl)) ?_;(with_reducible refine (QQ.calls 60 70 qhi qhj _ A1.out).mono ?_);rintro e w5 ⟨rfl,hb⟩;refine ⟨_,rfl,?_⟩;have n0_:=Q1.mk (Qi (by repeat (first|(with_reducible first|exact HB.out|apply Q2|apply Q0|apply Q3)|exact HB.out)) hb);clear HB;have HB:=n0_;clear n0_;(try clear hb);(try clear hb2);(try clear hk);(try clear hi))|((with_reducible refine Qu (f:=43) rfl ?_);refine Yk (some 2) rfl rfl Try.func43 (by kernel_rfl) rfl #[.int .i64 30,.int .i64 40] rfl (by (try simp only [List.map_toArray,List.map_cons,List.map_nil]);first|done|rfl|(simp only [List.length_drop,List.length_take];rfl)) ?_;(with_reducible refine (QQ.calls 30 40 qju qjv _ A2.out).mono ?_);rintro e w6 ⟨rfl,hb⟩;refine ⟨_,rfl,?_⟩;have n0_:=Q1.mk (Qi (by repeat (first|(with_reducible first|exact HB.out|apply Q2|apply Q0|apply Q3)|exact HB.out)) hb);clear HB;have HB:=n0_;clear n0_;(try clear hb);(try clear hb2);(try clear hk);(try clear hi))|((with_reducible refine QR (N:=3) rfl ?_);refine Kd.R_lit k25 _ 25 ?hg (N:=3) ?hd (xs:=([(⟨qhi,qhj⟩:S25),(⟨qju,qjv⟩:S25)]:List (S25))) (inner:=[.int .i64 qhi,.int .i64 qhj,.int .i64 qju,.int .i64 qjv]) (ok:=fun _=>True) (okp:=fun _=>True) ?hr ?hp (fun _ hk=>hk) trivial (Below.refl _ _) (Nat.le_refl _) (by simp) ?_;(case hd=>rfl);(case hg=>rfl);(case hr=>first|(go_simp;done)|(go_simp;rfl));(case hp=>exact (Reps.c2 (show Kd.M k25 _ _ _ (⟨qhi,qhj⟩:S25) [.int .i64 qhi,.int .i64 qhj] from (Wl _ _ _ (⟨qhi,qhj⟩:S25) )) (Reps.c2 (show Kd.M k25 _ _ _ (⟨qju,qjv⟩:S25) [.int .i64 qju,.int .i64 qjv] from (Wl _ _ _ (⟨qju,qjv⟩:S25) )) (Reps.none _ _))));intro qKL w7 ho8 hb hg_ hnew_;clear hg_ hnew_;(first|rw [← qtx.out] at ho8|(simp only [Int.reduceToNat] at ho8;rw [← qtx.out] at ho8));have n0_:=Q1.mk (Kd.R_lower (Kd.R_newM (M:=fun k_=>(w.heap.size≤k_)) ho8 (Qf (by repeat (first|(with_reducible first|exact HB.out|apply Q2|apply Q0|apply Q3)|exact HB.out))) (fun k_ h_=>h_)) (Qf (by repeat (first|(with_reducible first|exact HB.out|apply Q2|apply Q0|apply Q3)|exact HB.out))));have n1_:=Q1.mk (Qi (by repeat (first|(with_reducible first|exact HB.out|apply Q2|apply Q0|apply Q3)|exact HB.out)) hb);clear HB;have WJ:=n0_;have HB:=n1_;clear n0_ n1_ hb ho8)|((with_reducible refine Qu (f:=43) rfl ?_);refine Yk (some 4) rfl rfl Try.func43 (by kernel_rfl) rfl #[.int .i64 20,.int .i64 30] rfl (by (try simp only [List.map_toArray,List.map_cons,List.map_nil]);first|done|rfl|(simp only [List.length_drop,List.length_take];rfl)) ?_;(with_reducible refine (QQ.calls 20 30 qhk qhl _ A3.out).mono ?_);rintro e w9 ⟨rfl,hb⟩;refine ⟨_,rfl,?_⟩;have n0_:=Q1.mk (Kd.R_below (by (with_reducible repeat (first|apply Kd.R_alloc|apply Kd.R_drewN|apply Kd.R_drew));exact WJ.out) hb);have n1_:=Q1.mk (Qi (by repeat (first|(with_reducible first|exact HB.out|apply Q2|apply Q0|apply Q3)|exact HB.out)) hb);clear WJ HB;have WJ:=n0_;have HB:=n1_;clear n0_ n1_;(try clear hb);(try clear hb2);(try clear hk);(try clear hi))|((with_reducible refine Qu (f:=43) rfl ?_);refine Yk (some 5) rfl rfl Try.func43 (by kernel_rfl) rfl #[.int .i64 70,.int .i64 80] rfl (by (try simp only [List.map_toArray,List.map_cons,List.map_nil]);first|done|rfl|(simp only [List.length_drop,List.length_take];rfl)) ?_;(with_reducible refine (QQ.calls 70 80 qjw qjx _ A4.out).mono ?_);rintro e w10 ⟨rfl,hb⟩;refine ⟨_,rfl,?_⟩;have n0_:=Q1.mk (Kd.R_below (by (with_reducible repeat (first|apply Kd.R_alloc|apply Kd.R_drewN|apply Kd.R_drew));exact WJ.out) hb);have n1_:=Q1.mk (Qi (by repeat (first|(with_reducible first|exact HB.out|apply Q2|apply Q0|apply Q3)|exact HB.out)) hb);clear WJ HB;have WJ:=n0_;have HB:=n1_;clear n0_ n1_;(try clear hb);(try clear hb2);(try clear hk);(try clear hi))|((with_reducible refine QR (N:=6) rfl ?_);refine Kd.R_lit k25 _ 25 ?hg (N:=6) ?hd (xs:=([(⟨qhk,qhl⟩:S25),(⟨qjw,qjx⟩:S25)]:List (S25))) (inner:=[.int .i64 qhk,.int .i64 qhl,.int .i64 qjw,.int .i64 qjx]) (ok:=fun _=>True) (okp:=fun _=>True) ?hr ?hp (fun _ hk=>hk) trivial (Below.refl _ _) (Nat.le_refl _) (by simp) ?_;(case hd=>rfl);(case hg=>rfl);(case hr=>first|(go_simp;done)|(go_simp;rfl));(case hp=>exact (Reps.c2 (show Kd.M k25 _ _ _ (⟨qhk,qhl⟩:S25) [.int .i64 qhk,.int .i64 qhl] from (Wl _ _ _ (⟨qhk,qhl⟩:S25) )) (Reps.c2 (show Kd.M k25 _ _ _ (⟨qjw,qjx⟩:S25) [.int .i64 qjw,.int .i64 qjx] from (Wl _ _ _ (⟨qjw,qjx⟩:S25) )) (Reps.none _ _))));intro qKM w11 qnA hb hg_ hnew_;clear hg_ hnew_;(first|rw [← qty.out] at qnA|(simp only [Int.reduceToNat] at qnA;rw [← qty.out] at qnA));have n0_:=Q1.mk (Kd.R_elder' (by (with_reducible repeat (first|apply Kd.R_alloc|apply Kd.R_drewN|apply Kd.R_drew));exact WJ.out) (Kd.R_base qnA) hb);have n1_:=Q1.mk (Kd.R_lower (Kd.R_new' (Kd.R_newM (M:=fun k_=>(w.heap.size≤k_)) qnA (Qf (by repeat (first|(with_reducible first|exact HB.out|apply Q2|apply Q0|apply Q3)|exact HB.out))) (fun k_ h_=>h_)) (Kd.R_lt (by (with_reducible repeat (first|apply Kd.R_alloc|apply Kd.R_drewN|apply Kd.R_drew));exact WJ.out))) (Qf (by repeat (first|(with_reducible first|exact HB.out|apply Q2|apply Q0|apply Q3)|exact HB.out))));have n2_:=Q1.mk (Qi (by repeat (first|(with_reducible first|exact HB.out|apply Q2|apply Q0|apply Q3)|exact HB.out)) hb);clear WJ HB;have WJ:=n0_;have qlm:=n1_;have HB:=n2_;clear n0_ n1_ n2_ hb qnA;obtain ⟨qwr,qxo,qF2⟩:=Kd.R_slice WJ.out;subst qF2;obtain ⟨qpZ,qoK,qjW⟩:=Kd.R_slice qlm.out;subst qjW)|((with_reducible refine QR (N:=7) rfl ?_);refine Kd.N_lit (Kd.slice 25 k25) _ 32 ?hg (N':=7) ?hd (xs:=([qhM,qn9]:List (List (S25)))) (inner:=[.slice qwr qhM.length qxo,.slice qpZ qn9.length qoK]) (ok:=(fun k_=>(w.heap.size≤k_))) (okp:=(fun k_=>(w.heap.size≤k_))) ?hr ?hp (fun _ hk=>hk) ((show ∀ k_,w11.heap.size≤k_→(fun k_=>(w.heap.size≤k_)) k_ from fun k_ hk=>(Nat.le_trans (Qf (by repeat (first|(with_reducible first|exact HB.out|apply Q2|apply Q0|apply Q3)|exact HB.out))) hk)) _ (Nat.le_refl _)) (Below.refl _ _) (Nat.le_refl _) (by simp) ?_;(case hd=>rfl);(case hg=>rfl);(case hr=>first|(go_simp;done)|(go_simp;rfl));(case hp=>exact (Reps.one (show Kd.FK (Kd.slice 25 k25) _ _ qhM [.slice qwr qhM.length qxo] from (Kd.FK_slice_mk (Kd.R_reads' (Kd.R_mono (ok':=(fun k_=>(w.heap.size≤k_))) (WJ.out) (fun k_ hk=>hk.1.1))).2.1 (Kd.R_F (Kd.R_mono (ok':=(fun k_=>(w.heap.size≤k_))) (WJ.out) (fun k_ hk=>hk.1.1))))) (Reps.one (show Kd.FK (Kd.slice 25 k25) _ _ qn9 [.slice qpZ qn9.length qoK] from (Kd.FK_slice_mk (Kd.R_reads' (Kd.R_mono (ok':=(fun k_=>(w.heap.size≤k_))) (qlm.out) (fun k_ hk=>hk.1.1))).2.1 (Kd.R_F (Kd.R_mono (ok':=(fun k_=>(w.heap.size≤k_))) (qlm.out) (fun k_ hk=>hk.1.1))))) (Reps.none _ _))));intro qKN w15 qpd hb hg_ hnew_;clear hg_ hnew_;(first|rw [← qtz.out] at qpd|(simp only [Int.reduceToNat] at qpd;rw [← qtz.out] at qpd));have n0_:=Q1.mk (Kd.N_lower qpd (Qf (by repeat (first|(with_reducible first|exact HB.out|apply Q2|apply Q0|apply Q3)|exact HB.out))));have n1_:=Q1.mk (Qi (by repeat (first|(with_reducible first|exact HB.out|apply Q2|apply Q0|apply Q3)|exact HB.out)) hb);clear HB WJ qlm;have qwH:=n0_;have HB:=n1_;clear n0_ n1_ hb qpd))
 go_ret
 exact ⟨_,by first|rfl|(simp [Qw,Qx]<;>rfl)|(simp [*,Qw,Qx]<;>rfl),by (with_reducible repeat (first|apply Kd.N_alloc|apply Kd.N_drewN|apply Kd.N_drew));exact qwH.out,by repeat (first|(with_reducible first|exact HB.out|apply Q2|apply Q0|apply Q3)|exact HB.out)⟩
end
section
attribute [local go_sem] YC YE Z2 Z3 Yr Ys YD YF
def KZ.f  : Option ((List (Jp))):=some (([(⟨50,8⟩:Jp),(⟨30,5⟩:Jp),(⟨20,1⟩:Jp),(⟨10,4⟩:Jp)]:List (Jp)))
set_option maxHeartbeats 8000000 in
set_option maxRecDepth 100000 in
theorem KZ.calls  (r:List (Jp)) (w:World) (h:KZ.f  = some r) :
  Calls Try.prog 62 #[] w fun e w' => ∃ v0_:Value,e = .returned (v0_)∧Kd.R qcQ 136 w' w.heap.size (fun _=>True) v0_ r∧Below w.heap.size w w':=by
 have qpi:=Try.underlying136
 have HB:=Q1.mk (Below.refl w.heap.size w)
 have H:(some (([(⟨50,8⟩:Jp),(⟨30,5⟩:Jp),(⟨20,1⟩:Jp),(⟨10,4⟩:Jp)]:List (Jp))))=some r:=h
 clear h
 obtain ⟨qG2,qiF⟩:∃ y_:List (Jp),y_=(([(⟨50,8⟩:Jp),(⟨30,5⟩:Jp),(⟨20,1⟩:Jp),(⟨10,4⟩:Jp)]:List (Jp))):=⟨_,rfl⟩
 replace H:(some qG2)=some r:=by first|(rw [qiF];with_reducible exact H)|(have H2_:=(Option.bind_some _ _).symm.trans H;rw [qiF];with_reducible exact H2_)|(have H2_:=(Option.bind_some _ _).symm.trans H;with_reducible exact H2_)|with_reducible exact H|(rw [qiF];exact H)|exact H
 have qtA:=Q1.mk qiF
 clear qiF
 obtain rfl:=Option.some.inj H
 go_enter Try.func62,Try.ntmps62
 go_wp2_with (first|((with_reducible refine QR (N:=5) rfl ?_);refine Kd.R_lit qcQ _ 136 ?hg (N:=5) ?hd (xs:=([(⟨50,8⟩:Jp),(⟨30,5⟩:Jp),(⟨20,1⟩:Jp),(⟨10,4⟩:Jp)]:List (Jp))) (inner:=[.int .i64 50,.int .i64 8,.int .i64 30,.int .i64 5,.int .i64 20,.int .i64 1,.int .i64 10,.int .i64 4]) (ok:=fun _=>True) (okp:=fun _=>True) ?hr ?hp (fun _ hk=>hk) trivial (Below.refl _ _) (Nat.le_refl _) (by simp) ?_;(case hd=>rfl);(case hg=>rfl);(case hr=>first|(go_simp;done)|(go_simp;rfl));(case hp=>exact (Reps.c2 (show Kd.M qcQ _ _ _ (⟨50,8⟩:Jp) [.int .i64 50,.int .i64 8] from (qcR _ _ _ (⟨50,8⟩:Jp) )) (Reps.c2 (show Kd.M qcQ _ _ _ (⟨30,5⟩:Jp) [.int .i64 30,.int .i64 5] from (qcR _ _ _ (⟨30,5⟩:Jp) )) (Reps.c2 (show Kd.M qcQ _ _ _ (⟨20,1⟩:Jp) [.int .i64 20,.int .i64 1] from (qcR _ _ _ (⟨20,1⟩:Jp) )) (Reps.c2 (show Kd.M qcQ _ _ _ (⟨10,4⟩:Jp) [.int .i64 10,.int .i64 4] from (qcR _ _ _ (⟨10,4⟩:Jp) )) (Reps.none _ _))))));intro qKO w1 ho2 hb hg_ hnew_;clear hg_ hnew_;(first|rw [← qtA.out] at ho2|(simp only [Int.reduceToNat] at ho2;rw [← qtA.out] at ho2));have n0_:=Q1.mk (Kd.R_lower ho2 (Qf (by repeat (first|(with_reducible first|exact HB.out|apply Q2|apply Q0|apply Q3)|exact HB.out))));have n1_:=Q1.mk (Qi (by repeat (first|(with_reducible first|exact HB.out|apply Q2|apply Q0|apply Q3)|exact HB.out)) hb);clear HB;have qwI:=n0_;have HB:=n1_;clear n0_ n1_ hb ho2))
 go_ret
 exact ⟨_,by first|rfl|(simp [Qw,Qx]<;>rfl)|(simp [*,Qw,Qx]<;>rfl),by (with_reducible repeat (first|apply Kd.R_alloc|apply Kd.R_drewN|apply Kd.R_drew));exact qwI.out,by repeat (first|(with_reducible first|exact HB.out|apply Q2|apply Q0|apply Q3)|exact HB.out)⟩
end
section
attribute [local go_sem] YC YE Z2 Z3 Yr Ys YD YF
def Ko.f  : Option ((List (List Int))):=some (([(([0,1]:List Int)),(([1,2]:List Int)),(([2,3]:List Int))]:List (List Int)))
set_option maxHeartbeats 8000000 in
set_option maxRecDepth 100000 in
theorem Ko.calls  (r:List (List Int)) (w:World) (h:Ko.f  = some r) :
  Calls Try.prog 63 #[] w fun e w' => ∃ v0_:Value,e = .returned (v0_)∧Kd.N (Kd.slice 3 (Kd.int .i64)) 37 w' w.heap.size (fun k_=>(w.heap.size≤k_)) v0_ r∧Below w.heap.size w w':=by
 have HB:=Q1.mk (Below.refl w.heap.size w)
 have H:(some (([(([0,1]:List Int)),(([1,2]:List Int)),(([2,3]:List Int))]:List (List Int))))=some r:=h
 clear h
 obtain ⟨qjF,qiG⟩:∃ y_:List Int,y_=(([0,1]:List Int)):=⟨_,rfl⟩
 replace H:(some (([qjF,(([1,2]:List Int)),(([2,3]:List Int))]:List (List Int))))=some r:=by first|(rw [qiG];with_reducible exact H)|(have H2_:=(Option.bind_some _ _).symm.trans H;rw [qiG];with_reducible exact H2_)|(have H2_:=(Option.bind_some _ _).symm.trans H;with_reducible exact H2_)|with_reducible exact H|(rw [qiG];exact H)|exact H
 have qtB:=Q1.mk qiG
 clear qiG
 obtain ⟨qla,qiH⟩:∃ y_:List Int,y_=(([1,2]:List Int)):=⟨_,rfl⟩
 replace H:(some (([qjF,qla,(([2,3]:List Int))]:List (List Int))))=some r:=by first|(rw [qiH];with_reducible exact H)|(have H2_:=(Option.bind_some _ _).symm.trans H;rw [qiH];with_reducible exact H2_)|(have H2_:=(Option.bind_some _ _).symm.trans H;with_reducible exact H2_)|with_reducible exact H|(rw [qiH];exact H)|exact H
 have qtC:=Q1.mk qiH
 clear qiH
 obtain ⟨qoa,qiI⟩:∃ y_:List Int,y_=(([2,3]:List Int)):=⟨_,rfl⟩
 replace H:(some (([qjF,qla,qoa]:List (List Int))))=some r:=by first|(rw [qiI];with_reducible exact H)|(have H2_:=(Option.bind_some _ _).symm.trans H;rw [qiI];with_reducible exact H2_)|(have H2_:=(Option.bind_some _ _).symm.trans H;with_reducible exact H2_)|with_reducible exact H|(rw [qiI];exact H)|exact H
 have qtD:=Q1.mk qiI
 clear qiI
 obtain ⟨qG3,qiJ⟩:∃ y_:List (List Int),y_=(([qjF,qla,qoa]:List (List Int))):=⟨_,rfl⟩
 replace H:(some qG3)=some r:=by first|(rw [qiJ];with_reducible exact H)|(have H2_:=(Option.bind_some _ _).symm.trans H;rw [qiJ];with_reducible exact H2_)|(have H2_:=(Option.bind_some _ _).symm.trans H;with_reducible exact H2_)|with_reducible exact H|(rw [qiJ];exact H)|exact H
 have qtE:=Q1.mk qiJ
 clear qiJ
 obtain rfl:=Option.some.inj H
 go_enter Try.func63,Try.ntmps63
 go_wp2_with (first|((with_reducible refine QR (N:=1) rfl ?_);refine Kd.R_lit (Kd.int .i64) _ 3 ?hg (N:=1) ?hd (xs:=([0,1]:List Int)) (inner:=[.int .i64 0,.int .i64 1]) (ok:=fun _=>True) (okp:=fun _=>True) ?hr ?hp (fun _ hk=>hk) trivial (Below.refl _ _) (Nat.le_refl _) (by simp) ?_;(case hd=>rfl);(case hg=>rfl);(case hr=>first|(go_simp;done)|(go_simp;rfl));(case hp=>exact (Reps.one (show Kd.M (Kd.int .i64) _ _ _ 0 [.int .i64 0] from rfl) (Reps.one (show Kd.M (Kd.int .i64) _ _ _ 1 [.int .i64 1] from rfl) (Reps.none _ _))));intro qKP w1 ho2 hb hg_ hnew_;clear hg_ hnew_;(first|rw [← qtB.out] at ho2|(simp only [Int.reduceToNat] at ho2;rw [← qtB.out] at ho2));have n0_:=Q1.mk (Kd.R_lower (Kd.R_newM (M:=fun k_=>(w.heap.size≤k_)) ho2 (Qf (by repeat (first|(with_reducible first|exact HB.out|apply Q2|apply Q0|apply Q3)|exact HB.out))) (fun k_ h_=>h_)) (Qf (by repeat (first|(with_reducible first|exact HB.out|apply Q2|apply Q0|apply Q3)|exact HB.out))));have n1_:=Q1.mk (Qi (by repeat (first|(with_reducible first|exact HB.out|apply Q2|apply Q0|apply Q3)|exact HB.out)) hb);clear HB;have qam:=n0_;have HB:=n1_;clear n0_ n1_ hb ho2)|((with_reducible refine QR (N:=2) rfl ?_);refine Kd.R_lit (Kd.int .i64) _ 3 ?hg (N:=2) ?hd (xs:=([1,2]:List Int)) (inner:=[.int .i64 1,.int .i64 2]) (ok:=fun _=>True) (okp:=fun _=>True) ?hr ?hp (fun _ hk=>hk) trivial (Below.refl _ _) (Nat.le_refl _) (by simp) ?_;(case hd=>rfl);(case hg=>rfl);(case hr=>first|(go_simp;done)|(go_simp;rfl));(case hp=>exact (Reps.one (show Kd.M (Kd.int .i64) _ _ _ 1 [.int .i64 1] from rfl) (Reps.one (show Kd.M (Kd.int .i64) _ _ _ 2 [.int .i64 2] from rfl) (Reps.none _ _))));intro qKQ w3 ho4 hb hg_ hnew_;clear hg_ hnew_;(first|rw [← qtC.out] at ho4|(simp only [Int.reduceToNat] at ho4;rw [← qtC.out] at ho4));have n0_:=Q1.mk (Kd.R_elder' (by (with_reducible repeat (first|apply Kd.R_alloc|apply Kd.R_drewN|apply Kd.R_drew));exact qam.out) (Kd.R_base ho4) hb);have n1_:=Q1.mk (Kd.R_lower (Kd.R_new' (Kd.R_newM (M:=fun k_=>(w.heap.size≤k_)) ho4 (Qf (by repeat (first|(with_reducible first|exact HB.out|apply Q2|apply Q0|apply Q3)|exact HB.out))) (fun k_ h_=>h_)) (Kd.R_lt (by (with_reducible repeat (first|apply Kd.R_alloc|apply Kd.R_drewN|apply Kd.R_drew));exact qam.out))) (Qf (by repeat (first|(with_reducible first|exact HB.out|apply Q2|apply Q0|apply Q3)|exact HB.out))));have n2_:=Q1.mk (Qi (by repeat (first|(with_reducible first|exact HB.out|apply Q2|apply Q0|apply Q3)|exact HB.out)) hb);clear qam HB;have qam:=n0_;have qdx:=n1_;have HB:=n2_;clear n0_ n1_ n2_ hb ho4)|((with_reducible refine QR (N:=3) rfl ?_);refine Kd.R_lit (Kd.int .i64) _ 3 ?hg (N:=3) ?hd (xs:=([2,3]:List Int)) (inner:=[.int .i64 2,.int .i64 3]) (ok:=fun _=>True) (okp:=fun _=>True) ?hr ?hp (fun _ hk=>hk) trivial (Below.refl _ _) (Nat.le_refl _) (by simp) ?_;(case hd=>rfl);(case hg=>rfl);(case hr=>first|(go_simp;done)|(go_simp;rfl));(case hp=>exact (Reps.one (show Kd.M (Kd.int .i64) _ _ _ 2 [.int .i64 2] from rfl) (Reps.one (show Kd.M (Kd.int .i64) _ _ _ 3 [.int .i64 3] from rfl) (Reps.none _ _))));intro qKR w5 ho6 hb hg_ hnew_;clear hg_ hnew_;(first|rw [← qtD.out] at ho6|(simp only [Int.reduceToNat] at ho6;rw [← qtD.out] at ho6));have n0_:=Q1.mk (Kd.R_elder' (by (with_reducible repeat (first|apply Kd.R_alloc|apply Kd.R_drewN|apply Kd.R_drew));exact qam.out) (Kd.R_base ho6) hb);have n1_:=Q1.mk (Kd.R_elder' (by (with_reducible repeat (first|apply Kd.R_alloc|apply Kd.R_drewN|apply Kd.R_drew));exact qdx.out) (Kd.R_base ho6) hb);have n2_:=Q1.mk (Kd.R_lower (Kd.R_new' (Kd.R_new' (Kd.R_newM (M:=fun k_=>(w.heap.size≤k_)) ho6 (Qf (by repeat (first|(with_reducible first|exact HB.out|apply Q2|apply Q0|apply Q3)|exact HB.out))) (fun k_ h_=>h_)) (Kd.R_lt (by (with_reducible repeat (first|apply Kd.R_alloc|apply Kd.R_drewN|apply Kd.R_drew));exact qam.out))) (Kd.R_lt (by (with_reducible repeat (first|apply Kd.R_alloc|apply Kd.R_drewN|apply Kd.R_drew));exact qdx.out))) (Qf (by repeat (first|(with_reducible first|exact HB.out|apply Q2|apply Q0|apply Q3)|exact HB.out))));have n3_:=Q1.mk (Qi (by repeat (first|(with_reducible first|exact HB.out|apply Q2|apply Q0|apply Q3)|exact HB.out)) hb);clear qam qdx HB;have qam:=n0_;have qdx:=n1_;have qln:=n2_;have HB:=n3_;clear n0_ n1_ n2_ n3_ hb ho6;obtain ⟨Ao7,co7,eo7⟩:=Kd.R_slice qam.out;subst eo7;obtain ⟨Ao8,co8,eo8⟩:=Kd.R_slice qdx.out;subst eo8;obtain ⟨Ao9,co9,eo9⟩:=Kd.R_slice qln.out;subst eo9)|((with_reducible refine QR (N:=4) rfl ?_);refine Kd.N_lit (Kd.slice 3 (Kd.int .i64)) _ 37 ?hg (N':=4) ?hd (xs:=([qjF,qla,qoa]:List (List Int))) (inner:=[.slice Ao7 qjF.length co7,.slice Ao8 qla.length co8,.slice Ao9 qoa.length co9]) (ok:=(fun k_=>(w.heap.size≤k_))) (okp:=(fun k_=>(w.heap.size≤k_))) ?hr ?hp (fun _ hk=>hk) ((show ∀ k_,w5.heap.size≤k_→(fun k_=>(w.heap.size≤k_)) k_ from fun k_ hk=>(Nat.le_trans (Qf (by repeat (first|(with_reducible first|exact HB.out|apply Q2|apply Q0|apply Q3)|exact HB.out))) hk)) _ (Nat.le_refl _)) (Below.refl _ _) (Nat.le_refl _) (by simp) ?_;(case hd=>rfl);(case hg=>rfl);(case hr=>first|(go_simp;done)|(go_simp;rfl));(case hp=>exact (Reps.one (show Kd.FK (Kd.slice 3 (Kd.int .i64)) _ _ qjF [.slice Ao7 qjF.length co7] from (Kd.FK_slice_mk (Kd.R_reads' (Kd.R_mono (ok':=(fun k_=>(w.heap.size≤k_))) (qam.out) (fun k_ hk=>hk.1.1.1))).2.1 (Kd.R_F (Kd.R_mono (ok':=(fun k_=>(w.heap.size≤k_))) (qam.out) (fun k_ hk=>hk.1.1.1))))) (Reps.one (show Kd.FK (Kd.slice 3 (Kd.int .i64)) _ _ qla [.slice Ao8 qla.length co8] from (Kd.FK_slice_mk (Kd.R_reads' (Kd.R_mono (ok':=(fun k_=>(w.heap.size≤k_))) (qdx.out) (fun k_ hk=>hk.1.1.1))).2.1 (Kd.R_F (Kd.R_mono (ok':=(fun k_=>(w.heap.size≤k_))) (qdx.out) (fun k_ hk=>hk.1.1.1))))) (Reps.one (show Kd.FK (Kd.slice 3 (Kd.int .i64)) _ _ qoa [.slice Ao9 qoa.length co9] from (Kd.FK_slice_mk (Kd.R_reads' (Kd.R_mono (ok':=(fun k_=>(w.heap.size≤k_))) (qln.out) (fun k_ hk=>hk.1.1.1))).2.1 (Kd.R_F (Kd.R_mono (ok':=(fun k_=>(w.heap.size≤k_))) (qln.out) (fun k_ hk=>hk.1.1.1))))) (Reps.none _ _)))));intro qKS w10 qpb hb hg_ hnew_;clear hg_ hnew_;(first|rw [← qtE.out] at qpb|(simp only [Int.reduceToNat] at qpb;rw [← qtE.out] at qpb));have n0_:=Q1.mk (Kd.N_lower qpb (Qf (by repeat (first|(with_reducible first|exact HB.out|apply Q2|apply Q0|apply Q3)|exact HB.out))));have n1_:=Q1.mk (Qi (by repeat (first|(with_reducible first|exact HB.out|apply Q2|apply Q0|apply Q3)|exact HB.out)) hb);clear HB qam qdx qln;have qwJ:=n0_;have HB:=n1_;clear n0_ n1_ hb qpb))
 go_ret
 exact ⟨_,by first|rfl|(simp [Qw,Qx]<;>rfl)|(simp [*,Qw,Qx]<;>rfl),by (with_reducible repeat (first|apply Kd.N_alloc|apply Kd.N_drewN|apply Kd.N_drew));exact qwJ.out,by repeat (first|(with_reducible first|exact HB.out|apply Q2|apply Q0|apply Q3)|exact HB.out)⟩
end
section
set_option maxRecDepth 100000
def qeU:List S68:=[⟨30,⟨2,2⟩⟩,⟨20,⟨3,4⟩⟩,⟨10,⟨4,6⟩⟩]
def qgg:List (List S25):=[[⟨60,70⟩,⟨30,40⟩],[⟨20,30⟩,⟨70,80⟩]]
def qjX:List S25:=[⟨45,50⟩,⟨50,55⟩]
def qeS:S39:=⟨[100,50,20],[800,700,500],[0,1,2],60,1⟩
def qeT:S39:=⟨[60,60],[500,500],[1,1],50,0⟩
def qoU:List Jp:=[⟨50,8⟩,⟨30,5⟩,⟨20,1⟩,⟨10,4⟩]
def qgf:List (List Int):=[[0,1],[1,2],[2,3]]
def Xs:List (List (List Int)):=[[[90,80],[10,10]],[[0,0],[0,0]]]
theorem qny:K2.f=some qeU:=by kernel_rfl
theorem qo1:Kp.f=some qgg:=by kernel_rfl
theorem qqI:KD.f=some qjX:=by kernel_rfl
theorem qnx:Jm.f=some ([100,50,20],[800,700,500],[0,1,2],60,1):=by kernel_rfl
theorem qeV:Ga.f=some ([qeS,qeT],[40,80],Xs):=by kernel_rfl
theorem quZ:KZ.f=some qoU:=by kernel_rfl
theorem qo0:Ko.f=some qgf:=by kernel_rfl
theorem qqG:Y5.f 40 qeU 4 6=some (10,30,0):=by kernel_rfl
theorem qqH:QT.f 20 [100,50,20] [800,700,500] [0,1,2] 60 1 [30,30] [90,80]=some ([40,78],0):=by kernel_rfl
theorem qoX:YI.f 40 [qeS,qeT] [40,80] Xs=some (7,0):=by kernel_rfl
theorem qoW:Yc.f 40 [qeS,qeT] [40,80] Xs 8=some (1,1,1,0):=by kernel_rfl
theorem qoY:Zi.f 10 [40,78] [40,78]=some true:=by kernel_rfl
theorem qoZ:Zi.f 10 [0,2] [0,2]=some true:=by kernel_rfl
theorem qgh:Z6.f 10 [⟨38,75⟩,⟨25,62⟩] [⟨38,75⟩,⟨25,62⟩]=some true:=by kernel_rfl
theorem qoV:QI.f qoU qgf 2=some ([0,2],110,18,0):=by kernel_rfl
theorem qnw:QF.f 20 qgg qjX=some ([⟨38,75⟩,⟨25,62⟩],0):=by kernel_rfl
end
end Go.Proofs.Ytmhomdohhihlcaa.P
