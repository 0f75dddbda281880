/- What the statement StockSpread leans on, part 3 of 5: contracts of the program's functions; conditions: none. -/
import Derived.Outline
import Derived.Test.YtmhomdohhihlcaaStockSpreadx0
import Derived.Test.YtmhomdohhihlcaaStockSpreadx1
set_option linter.unusedVariables false
set_option linter.unusedSimpArgs false
set_option linter.constructorNameAsVariable false
set_option linter.unusedSectionVars false
namespace Go.Proofs.Ytmhomdohhihlcaa.P
open Go.RowKit Go.Proofs.YtmhomdohhihlcaaW.PrintWords Go.Proofs.YtmhomdohhihlcaaW.PrintLast Go.Proofs.YtmhomdohhihlcaaW.PrintMore
section
attribute [local go_sem] YR YU Z8 Z9 YA YC YT YV
mutual
def QM.j0:Nat→List Int→List Int→Bool→List Int→List Int→List Int→Int→Int→Option (List Int × Int)
 | 0,_,_,_,_,_,_,_,_=>none
 | k+1,x1,x2,x9,Kw,Kx,Ky,Kz,KA=>QM.l0 k x1 x2 x9 0 Kw Kx Ky Kz KA
def QM.l0:Nat→List Int→List Int→Bool→Int→List Int→List Int→List Int→Int→Int→Option (List Int × Int)
 | 0,_,_,_,_,_,_,_,_,_=>none
 | k+1,x1,x2,x9,x10,Kw,Kx,Ky,Kz,KA=>if x9=true then (QM.j2 k x1 x2 x9 x10 (decide (x10<(x1.length:Int))) Kw Kx Ky Kz KA) else (QM.j2 k x1 x2 x9 x10 false Kw Kx Ky Kz KA)
def QM.j2:Nat→List Int→List Int→Bool→Int→Bool→List Int→List Int→List Int→Int→Int→Option (List Int × Int)
 | 0,_,_,_,_,_,_,_,_,_,_=>none
 | k+1,x1,x2,x9,x10,x39,Kw,Kx,Ky,Kz,KA=>if x39=true then (if 0≤x10 then (if x10<(x1.length:Int) then ((Qt.f (rd x1 x10) 0 100000000).bind fun t159=>(if t159=true then (if x10<(x2.length:Int) then ((Qt.f (rd x2 x10) 0 100000).bind fun qdo=>(QM.l0 k x1 x2 qdo (wrap64 (x10+1)) Kw Kx Ky Kz KA)) else (none)) else (QM.l0 k x1 x2 false (wrap64 (x10+1)) Kw Kx Ky Kz KA))) else (none)) else (none)) else (if x9=true then ((Zh.f Kw Kx Ky Kz KA).bind fun KN=>(QM.l1 k x1 x2 ([]:List Int) (x1.length:Int) 0 Kw Kx Ky Kz KA KN.1 KN.2.1 KN.2.2.1 KN.2.2.2.1 KN.2.2.2.2.1 KN.2.2.2.2.2)) else (some (([]:List Int),92)))
def QM.l1:Nat→List Int→List Int→List Int→Int→Int→List Int→List Int→List Int→Int→Int→Int→Int→Int→Int→Int→Int→Option (List Int × Int)
 | 0,_,_,_,_,_,_,_,_,_,_,_,_,_,_,_,_=>none
 | k+1,x1,x2,x13,x59,x60,Kw,Kx,Ky,Kz,KA,qo3,qo4,qo5,qo6,qo7,qo8=>if x60<x59 then (if 0≤x60 then (if x60<(x1.length:Int) then (if x60<(x2.length:Int) then ((Zp.f Kw Kx Ky Kz KA qo3 qo4 qo5 qo6 qo7 qo8 (rd x1 x60) (rd x2 x60)).bind fun qcY=>(if x13.length<17592186044416 then (QM.l1 k x1 x2 (x13++[qcY.1]) x59 (wrap64 (x60+1)) Kw Kx Ky Kz KA qcY.2.1 qcY.2.2.1 qcY.2.2.2.1 qcY.2.2.2.2.1 qcY.2.2.2.2.2.1 qcY.2.2.2.2.2.2) else (none))) else (none)) else (none)) else (none)) else (if 0≤(x13.length:Int) then (if (x13.length:Int)≤(x13.length:Int) then (some ((x13.take ((x13.length:Int):Int).toNat),0)) else (none)) else (none))
end
def QM.f (k:Nat) (Qi:List Int) (Qu:List Int) (Ql:List Int) (Yf:Int) (Ye:Int) (l1:List Int) (l2:List Int):Option (List Int × Int):=(Qy.f k Qi Qu Ql Yf Ye).bind fun t156=>(if t156=true then ((Qt.f (l1.length:Int) 1 10).bind fun t157=>(if t157=true then (QM.j0 k l1 l2 ((l2.length:Int)==(l1.length:Int)) Qi Qu Ql Yf Ye) else (QM.j0 k l1 l2 false Qi Qu Ql Yf Ye))) else (QM.j0 k l1 l2 false Qi Qu Ql Yf Ye))
def QM.T15:Bool × List (List Nat × List Nat):=(true,[([],[]),([],[]),([],[]),([],[]),([],[]),([3,4],[3,4]),([5],[5]),([],[]),([],[]),([7,8],[7,8]),([9],[9]),([0,1,2,6,10],[0,1,2,6,10]),([11],[11]),([12],[12]),([12],[12]),([],[]),([13,11,0,1,2,3,4,5,6,7,8,9,10,11,12,13,15],[13]),([15,14,16,0,1,2,3,4,5,6,7,8,9,10,11,12,13,14,15,16],[14,15])])
def QM.B15:List Nat:=[0,0,0,0,0,24,56,0,0,384,896,2047,4095,8191,8191,0,49151,131071]
theorem QM.tab15:rtab .any (qbH Try.f25 15)=QM.T15:=by kernel_rfl
theorem QM.bits15:Kv QM.T15.2 QM.B15=true:=by kernel_rfl
set_option maxHeartbeats 8000000 in
set_option maxRecDepth 100000 in
theorem QM.calls (k:Nat) (Ya:Option Addr) (QP:Nat) (Qi:List Int) (Y6:Option Addr) (QR:Nat) (Qu:List Int) (Yc:Option Addr) (QS:Nat) (Ql:List Int) (Yf:Int) (Ye:Int) (A1:Option Addr) (c1:Nat) (l1:List Int) (A2:Option Addr) (c2:Nat) (l2:List Int) (r1:List Int) (r2:Int) (w:World) (GQ:Kd.C (Kd.int .i64) w Ya Qi.length Qi) (Ka:Qi.length≤QP) (GR:Kd.C (Kd.int .i64) w Y6 Qu.length Qu) (Kb:Qu.length≤QR) (GT:Kd.C (Kd.int .i64) w Yc Ql.length Ql) (Ke:Ql.length≤QS) (hr1:Kd.C (Kd.int .i64) w A1 l1.length l1) (hc1:l1.length≤c1) (hr2:Kd.C (Kd.int .i64) w A2 l2.length l2) (hc2:l2.length≤c2) (h:QM.f k Qi Qu Ql Yf Ye l1 l2=some (r1,r2)) :
  Calls Try.prog 25 #[.agg #[.slice Ya Qi.length QP,.slice Y6 Qu.length QR,.slice Yc Ql.length QS,.int .i64 Yf,.int .i64 Ye],.slice A1 l1.length c1,.slice A2 l2.length c2] w fun e w' => ∃ v0_:Value,e = .returned (.tuple #[v0_,.int .i64 r2])∧Kd.V (Kd.int .i64) 3 w' w.heap.size (fun k_=>(w.heap.size≤k_)) v0_ r1∧Below w.heap.size w w':=by
 have qor:=Try.underlying39
 have ql3:=Try.underlying111
 have quZ:=Try.underlying115
 have JI:=Q0.mk GQ
 have G5:=Q0.mk Ka
 clear GQ Ka
 have JU:=Q0.mk GR
 have G6:=Q0.mk Kb
 clear GR Kb
 have JV:=Q0.mk GT
 have G7:=Q0.mk Ke
 clear GT Ke
 have HR1:=Q0.mk hr1
 have HC1:=Q0.mk hc1
 clear hr1 hc1
 have HR2:=Q0.mk hr2
 have HC2:=Q0.mk hc2
 clear hr2 hc2
 have HB:=Q0.mk (Below.refl w.heap.size w)
 have H:((Qy.f k Qi Qu Ql Yf Ye).bind fun t156=>(if t156=true then ((Qt.f (l1.length:Int) 1 10).bind fun t157=>(if t157=true then (QM.j0 k l1 l2 ((l2.length:Int)==(l1.length:Int)) Qi Qu Ql Yf Ye) else (QM.j0 k l1 l2 false Qi Qu Ql Yf Ye))) else (QM.j0 k l1 l2 false Qi Qu Ql Yf Ye)))=some (r1,r2):=h
 clear h
 have HC4:=Q0.mk H
 clear H
 go_enter Try.func25,Try.ntmps25
 go_upto_region 2 with (first|((with_reducible refine Y0 (N:=3) rfl ?_);(try (refine G4 (by rfl) ?_;dsimp only));refine Yv ?hg (N:=3) ?hd (cs:=#[.slice Ya Qi.length QP,.slice Y6 Qu.length QR,.slice Yc Ql.length QS,.int .i64 Yf,.int .i64 Ye]) (t:=39) ?hr ?_;(case hd=>rfl);(case hg=>rfl);(case hr=>first|(go_simp;done)|(go_simp;rfl));intro J3 hg w5 hbox hb;have n0_:=Q0.mk (Qv (by repeat (first|(with_reducible first|exact HB.out|apply Q2|apply Q1|apply Q4)|exact HB.out)) hb);have n1_:=Q0.mk (hbox);have n2_:=Q0.mk ((by rw [hg];exact (Qn (by repeat (first|(with_reducible first|exact HB.out|apply Q2|apply Q1|apply Q4)|exact HB.out))):w.heap.size≤J3));have n3_:=n2_;clear HB;have HB:=n0_;have YY:=n1_;have qC9:=n2_;have J0:=n3_;clear n0_ n1_ n2_ n3_ hb hbox hg;have Xs:w5.cell? ⟨J3,0,none⟩=some (.slice Ya Qi.length QP):=(Q9 YY.out 0).trans rfl;have Xt:w5.cell? ⟨J3,1,none⟩=some (.slice Y6 Qu.length QR):=(Q9 YY.out 1).trans rfl;have qbi:w5.cell? ⟨J3,2,none⟩=some (.slice Yc Ql.length QS):=(Q9 YY.out 2).trans rfl;have qey:w5.cell? ⟨J3,3,none⟩=some (.int .i64 Yf):=(Q9 YY.out 3).trans rfl;have qez:w5.cell? ⟨J3,4,none⟩=some (.int .i64 Ye):=(Q9 YY.out 4).trans rfl;have Xu:=Qa YY.out 0;have Xv:=Qa YY.out 1;have qbj:=Qa YY.out 2;have qeM:=Qa YY.out 3;have qeN:=Qa YY.out 4)|((with_reducible refine Y0 (N:=8) rfl ?_);(try (refine G4 (by rfl) ?_;dsimp only));refine Yv ?hg (N:=8) ?hd (cs:=#[.slice none 0 0,.slice none 0 0,.slice none 0 0,.int .i64 0,.int .i64 0]) (t:=111) ?hr ?_;(case hd=>rfl);(case hg=>rfl);(case hr=>first|(go_simp;done)|(go_simp;rfl));intro Z0 hg w7 hbox hb;have n0_:=Q0.mk (Qp (g:=J3) (by (with_reducible repeat (first|refine Q5 ?_ _|refine Q7 ?_|refine Q3 ?_ _));exact YY.out) hb);have n1_:=Q0.mk (Qv (by repeat (first|(with_reducible first|exact HB.out|apply Q2|apply Q1|apply Q4|refine Q8 ?_ J0.out)|exact HB.out)) hb);have n2_:=Q0.mk (hbox);have n3_:=Q0.mk ((by rw [hg];exact (Qn (by repeat (first|(with_reducible first|exact HB.out|apply Q2|apply Q1|apply Q4|refine Q8 ?_ J0.out)|exact HB.out))):w.heap.size≤Z0));have n4_:=n3_;have n5_:=Q0.mk ((by rw [hg];exact Nat.ne_of_lt (QT (g:=J3) (by (with_reducible repeat (first|refine Q5 ?_ _|refine Q7 ?_|refine Q3 ?_ _));exact YY.out)):J3≠Z0));have n6_:=Q0.mk (n5_.out.symm);clear YY HB;have YY:=n0_;have HB:=n1_;have Y4:=n2_;have qDa:=n3_;have Ja:=n4_;have ZO:=n5_;have W6:=n6_;clear n0_ n1_ n2_ n3_ n4_ n5_ n6_ hb hbox hg;have qGn:=W6.out;have qGo:=ZO.out;have KC:w7.cell? ⟨Z0,0,none⟩=some (.slice none 0 0):=(Q9 Y4.out 0).trans rfl;have KD:w7.cell? ⟨Z0,1,none⟩=some (.slice none 0 0):=(Q9 Y4.out 1).trans rfl;have KE:w7.cell? ⟨Z0,2,none⟩=some (.slice none 0 0):=(Q9 Y4.out 2).trans rfl;have qeC:w7.cell? ⟨Z0,3,none⟩=some (.int .i64 0):=(Q9 Y4.out 3).trans rfl;have qeD:w7.cell? ⟨Z0,4,none⟩=some (.int .i64 0):=(Q9 Y4.out 4).trans rfl;have KG:=Qa Y4.out 0;have KH:=Qa Y4.out 1;have KI:=Qa Y4.out 2;have qeQ:=Qa Y4.out 3;have qeR:=Qa Y4.out 4))
 (try simp only [Qf,Qb,Qe,Qd,Qc])
 go_cut [9] (fun v9 wc => ∃ (kq:Nat) (qpb:Bool),v9 = .bool qpb∧Q0 (QM.j0 kq l1 l2 qpb Qi Qu Ql Yf Ye=some (r1,r2))∧Q0 (kq≤k)∧Q0 (wc.heap[J3]? = some (.cells #[(.slice Ya Qi.length QP),(.slice Y6 Qu.length QR),(.slice Yc Ql.length QS),.int .i64 Yf,.int .i64 Ye] 39 (0,0)))∧Q0 (wc.heap[Z0]? = some (.cells #[(.slice Ya Qi.length QP),(.slice Y6 Qu.length QR),(.slice Yc Ql.length QS),.int .i64 Yf,.int .i64 Ye] 111 (0,0)))∧Q0 (Below w.heap.size w wc))
 case first =>
  have H:=HC4.out
  clear HC4
  replace H:=Option.bind_eq_some_iff.mp H
  obtain ⟨t156,qkN,H⟩:=H
  replace H:(if t156=true then ((Qt.f (l1.length:Int) 1 10).bind fun t157=>(if t157=true then (QM.j0 k l1 l2 ((l2.length:Int)==(l1.length:Int)) Qi Qu Ql Yf Ye) else (QM.j0 k l1 l2 false Qi Qu Ql Yf Ye))) else (QM.j0 k l1 l2 false Qi Qu Ql Yf Ye))=some (r1,r2):=H
  have A10:=Q0.mk qkN
  clear qkN
  by_cases c11:t156=true
  ·
   subst c11
   have H1:((Qt.f (l1.length:Int) 1 10).bind fun t157=>(if t157=true then (QM.j0 k l1 l2 ((l2.length:Int)==(l1.length:Int)) Qi Qu Ql Yf Ye) else (QM.j0 k l1 l2 false Qi Qu Ql Yf Ye)))=some (r1,r2):=by rw [if_pos rfl] at H;exact H
   clear H
   have H:=H1
   clear H1
   replace H:=Option.bind_eq_some_iff.mp H
   obtain ⟨t157,qbe,H⟩:=H
   replace H:(if t157=true then (QM.j0 k l1 l2 ((l2.length:Int)==(l1.length:Int)) Qi Qu Ql Yf Ye) else (QM.j0 k l1 l2 false Qi Qu Ql Yf Ye))=some (r1,r2):=H
   have A12:=Q0.mk qbe
   clear qbe
   by_cases c13:t157=true
   ·
    subst c13
    have H1:(QM.j0 k l1 l2 ((l2.length:Int)==(l1.length:Int)) Qi Qu Ql Yf Ye)=some (r1,r2):=by rw [if_pos rfl] at H;exact H
    clear H;have H:=H1;clear H1;have H':=Q0.mk H;clear H;have qEc:=W6.out;have qEO:=ZO.out;have OH:w7.cell? ⟨Z0,0,none⟩=some (.slice none 0 0):=(Q9 Y4.out 0).trans rfl;have OI:w7.cell? ⟨Z0,1,none⟩=some (.slice none 0 0):=(Q9 Y4.out 1).trans rfl;have Ui:w7.cell? ⟨Z0,2,none⟩=some (.slice none 0 0):=(Q9 Y4.out 2).trans rfl;have Uj:w7.cell? ⟨Z0,3,none⟩=some (.int .i64 0):=(Q9 Y4.out 3).trans rfl;have Uk:w7.cell? ⟨Z0,4,none⟩=some (.int .i64 0):=(Q9 Y4.out 4).trans rfl;have OM:=Qa Y4.out 0;have ON:=Qa Y4.out 1;have Uu:=Qa Y4.out 2;have Uv:=Qa Y4.out 3;have Uw:=Qa Y4.out 4
    go_wp2_with (first|((with_reducible refine QF (f:=76) rfl ?_);refine YE (some 20) rfl rfl Try.func76 (by kernel_rfl) rfl #[.agg #[.slice Ya Qi.length QP,.slice Y6 Qu.length QR,.slice Yc Ql.length QS,.int .i64 Yf,.int .i64 Ye]] rfl (by (try simp only [List.map_toArray,List.map_cons,List.map_nil]);first|done|rfl|(simp only [List.length_drop,List.length_take];rfl)) ?_;(with_reducible refine (Qy.calls k _ _ Qi _ _ Qu _ _ Ql Yf Ye true _ ?side1 ?side2 ?side3 ?side4 ?side5 ?side6 A10.out).mono ?_);(case side1=>exact Kd.C_below JI.out (by repeat (first|(with_reducible first|exact HB.out|apply Q2|apply Q1|apply Q4|refine Q8 ?_ J0.out|refine Q8 ?_ Ja.out)|exact HB.out)));(case side2=>exact G5.out);(case side3=>exact Kd.C_below JU.out (by repeat (first|(with_reducible first|exact HB.out|apply Q2|apply Q1|apply Q4|refine Q8 ?_ J0.out|refine Q8 ?_ Ja.out)|exact HB.out)));(case side4=>exact G6.out);(case side5=>exact Kd.C_below JV.out (by repeat (first|(with_reducible first|exact HB.out|apply Q2|apply Q1|apply Q4|refine Q8 ?_ J0.out|refine Q8 ?_ Ja.out)|exact HB.out)));(case side6=>exact G7.out);rintro e w16 ⟨rfl,hb⟩;refine ⟨_,rfl,?_⟩;have n0_:=Q0.mk (Qp (g:=J3) (o:=.cells #[.slice Ya Qi.length QP,.slice Y6 Qu.length QR,.slice Yc Ql.length QS,.int .i64 Yf,.int .i64 Ye] 39 (0,0)) (by (with_reducible repeat (first|refine Q5 ?_ _|refine Q7 ?_|refine Q3 ?_ _));refine Qx ?_ ZO.out _;(with_reducible repeat (first|refine Q5 ?_ _|refine Q7 ?_|refine Q3 ?_ _));refine Qx ?_ ZO.out _;(with_reducible repeat (first|refine Q5 ?_ _|refine Q7 ?_|refine Q3 ?_ _));refine Qx ?_ ZO.out _;(with_reducible repeat (first|refine Q5 ?_ _|refine Q7 ?_|refine Q3 ?_ _));refine Qx ?_ ZO.out _;(with_reducible repeat (first|refine Q5 ?_ _|refine Q7 ?_|refine Q3 ?_ _));refine Qx ?_ ZO.out _;(with_reducible repeat (first|refine Q5 ?_ _|refine Q7 ?_|refine Q3 ?_ _));exact YY.out) hb);have n1_:=Q0.mk (Qp (g:=Z0) (o:=.cells #[.slice Ya Qi.length QP,.slice Y6 Qu.length QR,.slice Yc Ql.length QS,.int .i64 Yf,.int .i64 Ye] 111 (0,0)) (by (with_reducible repeat (first|refine Q5 ?_ _|refine Q7 ?_|refine Q3 ?_ _));refine QG (cs:=#[.slice Ya Qi.length QP,.slice Y6 Qu.length QR,.slice Yc Ql.length QS,.int .i64 Yf,.int .i64 0]) ?_ 4 _ rfl;(with_reducible repeat (first|refine Q5 ?_ _|refine Q7 ?_|refine Q3 ?_ _));refine QG (cs:=#[.slice Ya Qi.length QP,.slice Y6 Qu.length QR,.slice Yc Ql.length QS,.int .i64 0,.int .i64 0]) ?_ 3 _ rfl;(with_reducible repeat (first|refine Q5 ?_ _|refine Q7 ?_|refine Q3 ?_ _));refine QG (cs:=#[.slice Ya Qi.length QP,.slice Y6 Qu.length QR,.slice none 0 0,.int .i64 0,.int .i64 0]) ?_ 2 _ rfl;(with_reducible repeat (first|refine Q5 ?_ _|refine Q7 ?_|refine Q3 ?_ _));refine QG (cs:=#[.slice Ya Qi.length QP,.slice none 0 0,.slice none 0 0,.int .i64 0,.int .i64 0]) ?_ 1 _ rfl;(with_reducible repeat (first|refine Q5 ?_ _|refine Q7 ?_|refine Q3 ?_ _));refine QG (cs:=#[.slice none 0 0,.slice none 0 0,.slice none 0 0,.int .i64 0,.int .i64 0]) ?_ 0 _ rfl;(with_reducible repeat (first|refine Q5 ?_ _|refine Q7 ?_|refine Q3 ?_ _));exact Y4.out) hb);have n2_:=Q0.mk (Qv (by repeat (first|(with_reducible first|exact HB.out|apply Q2|apply Q1|apply Q4|refine Q8 ?_ J0.out|refine Q8 ?_ Ja.out)|exact HB.out)) hb);clear YY Y4 HB;have YY:=n0_;have Y4:=n1_;have HB:=n2_;clear n0_ n1_ n2_;(try clear hb);(try clear hb2);(try clear hk);(try clear hi))|(go_at_call 65;(with_reducible refine (Qt.calls (l1.length:Int) 1 10 true _ A12.out).mono ?_);rintro e w' ⟨rfl,⟨nd,rfl⟩⟩))
    go_meet
    case rel=>exact ⟨_,(((l2.length:Int)==(l1.length:Int))),(by first|rfl|(simp;done)|(simp [*];done)),H',⟨by first|omega|exact Nat.le_refl _⟩,⟨by (with_reducible repeat (first|refine Q5 ?_ _|refine Q7 ?_|refine Q3 ?_ _));exact YY.out⟩,⟨by (with_reducible repeat (first|refine Q5 ?_ _|refine Q7 ?_|refine Q3 ?_ _));exact Y4.out⟩,⟨by repeat (first|(with_reducible first|exact HB.out|apply Q2|apply Q1|apply Q4|refine Q8 ?_ J0.out|refine Q8 ?_ Ja.out)|exact HB.out)⟩⟩
   replace c13:=Bool.eq_false_iff.mpr c13
   subst c13
   have H1:(QM.j0 k l1 l2 false Qi Qu Ql Yf Ye)=some (r1,r2):=by rw [if_neg (show ¬ (false=true) by decide)] at H;exact H
   clear H
   have H:=H1
   clear H1
   have H':=Q0.mk H
   clear H
   have quv:=W6.out
   have quJ:=ZO.out
   have Ul:w7.cell? ⟨Z0,0,none⟩=some (.slice none 0 0):=(Q9 Y4.out 0).trans rfl
   have Um:w7.cell? ⟨Z0,1,none⟩=some (.slice none 0 0):=(Q9 Y4.out 1).trans rfl
   have Un:w7.cell? ⟨Z0,2,none⟩=some (.slice none 0 0):=(Q9 Y4.out 2).trans rfl
   have qb3:w7.cell? ⟨Z0,3,none⟩=some (.int .i64 0):=(Q9 Y4.out 3).trans rfl
   have qb4:w7.cell? ⟨Z0,4,none⟩=some (.int .i64 0):=(Q9 Y4.out 4).trans rfl
   have Ux:=Qa Y4.out 0
   have Uy:=Qa Y4.out 1
   have Uz:=Qa Y4.out 2
   have qce:=Qa Y4.out 3
   have qcf:=Qa Y4.out 4
   go_wp2_with (first|((with_reducible refine QF (f:=76) rfl ?_);refine YE (some 20) rfl rfl Try.func76 (by kernel_rfl) rfl #[.agg #[.slice Ya Qi.length QP,.slice Y6 Qu.length QR,.slice Yc Ql.length QS,.int .i64 Yf,.int .i64 Ye]] rfl (by (try simp only [List.map_toArray,List.map_cons,List.map_nil]);first|done|rfl|(simp only [List.length_drop,List.length_take];rfl)) ?_;(with_reducible refine (Qy.calls k _ _ Qi _ _ Qu _ _ Ql Yf Ye true _ ?side1 ?side2 ?side3 ?side4 ?side5 ?side6 A10.out).mono ?_);(case side1=>exact Kd.C_below JI.out (by repeat (first|(with_reducible first|exact HB.out|apply Q2|apply Q1|apply Q4|refine Q8 ?_ J0.out|refine Q8 ?_ Ja.out)|exact HB.out)));(case side2=>exact G5.out);(case side3=>exact Kd.C_below JU.out (by repeat (first|(with_reducible first|exact HB.out|apply Q2|apply Q1|apply Q4|refine Q8 ?_ J0.out|refine Q8 ?_ Ja.out)|exact HB.out)));(case side4=>exact G6.out);(case side5=>exact Kd.C_below JV.out (by repeat (first|(with_reducible first|exact HB.out|apply Q2|apply Q1|apply Q4|refine Q8 ?_ J0.out|refine Q8 ?_ Ja.out)|exact HB.out)));(case side6=>exact G7.out);rintro e w19 ⟨rfl,hb⟩;refine ⟨_,rfl,?_⟩;have n0_:=Q0.mk (Qp (g:=J3) (o:=.cells #[.slice Ya Qi.length QP,.slice Y6 Qu.length QR,.slice Yc Ql.length QS,.int .i64 Yf,.int .i64 Ye] 39 (0,0)) (by (with_reducible repeat (first|refine Q5 ?_ _|refine Q7 ?_|refine Q3 ?_ _));refine Qx ?_ ZO.out _;(with_reducible repeat (first|refine Q5 ?_ _|refine Q7 ?_|refine Q3 ?_ _));refine Qx ?_ ZO.out _;(with_reducible repeat (first|refine Q5 ?_ _|refine Q7 ?_|refine Q3 ?_ _));refine Qx ?_ ZO.out _;(with_reducible repeat (first|refine Q5 ?_ _|refine Q7 ?_|refine Q3 ?_ _));refine Qx ?_ ZO.out _;(with_reducible repeat (first|refine Q5 ?_ _|refine Q7 ?_|refine Q3 ?_ _));refine Qx ?_ ZO.out _;(with_reducible repeat (first|refine Q5 ?_ _|refine Q7 ?_|refine Q3 ?_ _));exact YY.out) hb);have n1_:=Q0.mk (Qp (g:=Z0) (o:=.cells #[.slice Ya Qi.length QP,.slice Y6 Qu.length QR,.slice Yc Ql.length QS,.int .i64 Yf,.int .i64 Ye] 111 (0,0)) (by (with_reducible repeat (first|refine Q5 ?_ _|refine Q7 ?_|refine Q3 ?_ _));refine QG (cs:=#[.slice Ya Qi.length QP,.slice Y6 Qu.length QR,.slice Yc Ql.length QS,.int .i64 Yf,.int .i64 0]) ?_ 4 _ rfl;(with_reducible repeat (first|refine Q5 ?_ _|refine Q7 ?_|refine Q3 ?_ _));refine QG (cs:=#[.slice Ya Qi.length QP,.slice Y6 Qu.length QR,.slice Yc Ql.length QS,.int .i64 0,.int .i64 0]) ?_ 3 _ rfl;(with_reducible repeat (first|refine Q5 ?_ _|refine Q7 ?_|refine Q3 ?_ _));refine QG (cs:=#[.slice Ya Qi.length QP,.slice Y6 Qu.length QR,.slice none 0 0,.int .i64 0,.int .i64 0]) ?_ 2 _ rfl;(with_reducible repeat (first|refine Q5 ?_ _|refine Q7 ?_|refine Q3 ?_ _));refine QG (cs:=#[.slice Ya Qi.length QP,.slice none 0 0,.slice none 0 0,.int .i64 0,.int .i64 0]) ?_ 1 _ rfl;(with_reducible repeat (first|refine Q5 ?_ _|refine Q7 ?_|refine Q3 ?_ _));refine QG (cs:=#[.slice none 0 0,.slice none 0 0,.slice none 0 0,.int .i64 0,.int .i64 0]) ?_ 0 _ rfl;(with_reducible repeat (first|refine Q5 ?_ _|refine Q7 ?_|refine Q3 ?_ _));exact Y4.out) hb);have n2_:=Q0.mk (Qv (by repeat (first|(with_reducible first|exact HB.out|apply Q2|apply Q1|apply Q4|refine Q8 ?_ J0.out|refine Q8 ?_ Ja.out)|exact HB.out)) hb);clear YY Y4 HB;have YY:=n0_;have Y4:=n1_;have HB:=n2_;clear n0_ n1_ n2_;(try clear hb);(try clear hb2);(try clear hk);(try clear hi))|(go_at_call 65;(with_reducible refine (Qt.calls (l1.length:Int) 1 10 false _ A12.out).mono ?_);rintro e w' ⟨rfl,⟨nd,rfl⟩⟩))
   go_meet
   case rel=>exact ⟨_,(false),(by first|rfl|(simp;done)|(simp [*];done)),H',⟨by first|omega|exact Nat.le_refl _⟩,⟨by (with_reducible repeat (first|refine Q5 ?_ _|refine Q7 ?_|refine Q3 ?_ _));exact YY.out⟩,⟨by (with_reducible repeat (first|refine Q5 ?_ _|refine Q7 ?_|refine Q3 ?_ _));exact Y4.out⟩,⟨by repeat (first|(with_reducible first|exact HB.out|apply Q2|apply Q1|apply Q4|refine Q8 ?_ J0.out|refine Q8 ?_ Ja.out)|exact HB.out)⟩⟩
  replace c11:=Bool.eq_false_iff.mpr c11
  subst c11
  have H1:(QM.j0 k l1 l2 false Qi Qu Ql Yf Ye)=some (r1,r2):=by rw [if_neg (show ¬ (false=true) by decide)] at H;exact H
  clear H
  have H:=H1
  clear H1
  have H':=Q0.mk H
  clear H
  have quw:=W6.out
  have quK:=ZO.out
  have OJ:w7.cell? ⟨Z0,0,none⟩=some (.slice none 0 0):=(Q9 Y4.out 0).trans rfl
  have OK:w7.cell? ⟨Z0,1,none⟩=some (.slice none 0 0):=(Q9 Y4.out 1).trans rfl
  have OL:w7.cell? ⟨Z0,2,none⟩=some (.slice none 0 0):=(Q9 Y4.out 2).trans rfl
  have qb5:w7.cell? ⟨Z0,3,none⟩=some (.int .i64 0):=(Q9 Y4.out 3).trans rfl
  have qb6:w7.cell? ⟨Z0,4,none⟩=some (.int .i64 0):=(Q9 Y4.out 4).trans rfl
  have OO:=Qa Y4.out 0
  have OP:=Qa Y4.out 1
  have OQ:=Qa Y4.out 2
  have qcg:=Qa Y4.out 3
  have qch:=Qa Y4.out 4
  go_wp2_with (first|((with_reducible refine QF (f:=76) rfl ?_);refine YE (some 20) rfl rfl Try.func76 (by kernel_rfl) rfl #[.agg #[.slice Ya Qi.length QP,.slice Y6 Qu.length QR,.slice Yc Ql.length QS,.int .i64 Yf,.int .i64 Ye]] rfl (by (try simp only [List.map_toArray,List.map_cons,List.map_nil]);first|done|rfl|(simp only [List.length_drop,List.length_take];rfl)) ?_;(with_reducible refine (Qy.calls k _ _ Qi _ _ Qu _ _ Ql Yf Ye false _ ?side1 ?side2 ?side3 ?side4 ?side5 ?side6 A10.out).mono ?_);(case side1=>exact Kd.C_below JI.out (by repeat (first|(with_reducible first|exact HB.out|apply Q2|apply Q1|apply Q4|refine Q8 ?_ J0.out|refine Q8 ?_ Ja.out)|exact HB.out)));(case side2=>exact G5.out);(case side3=>exact Kd.C_below JU.out (by repeat (first|(with_reducible first|exact HB.out|apply Q2|apply Q1|apply Q4|refine Q8 ?_ J0.out|refine Q8 ?_ Ja.out)|exact HB.out)));(case side4=>exact G6.out);(case side5=>exact Kd.C_below JV.out (by repeat (first|(with_reducible first|exact HB.out|apply Q2|apply Q1|apply Q4|refine Q8 ?_ J0.out|refine Q8 ?_ Ja.out)|exact HB.out)));(case side6=>exact G7.out);rintro e w22 ⟨rfl,hb⟩;refine ⟨_,rfl,?_⟩;have n0_:=Q0.mk (Qp (g:=J3) (o:=.cells #[.slice Ya Qi.length QP,.slice Y6 Qu.length QR,.slice Yc Ql.length QS,.int .i64 Yf,.int .i64 Ye] 39 (0,0)) (by (with_reducible repeat (first|refine Q5 ?_ _|refine Q7 ?_|refine Q3 ?_ _));refine Qx ?_ ZO.out _;(with_reducible repeat (first|refine Q5 ?_ _|refine Q7 ?_|refine Q3 ?_ _));refine Qx ?_ ZO.out _;(with_reducible repeat (first|refine Q5 ?_ _|refine Q7 ?_|refine Q3 ?_ _));refine Qx ?_ ZO.out _;(with_reducible repeat (first|refine Q5 ?_ _|refine Q7 ?_|refine Q3 ?_ _));refine Qx ?_ ZO.out _;(with_reducible repeat (first|refine Q5 ?_ _|refine Q7 ?_|refine Q3 ?_ _));refine Qx ?_ ZO.out _;(with_reducible repeat (first|refine Q5 ?_ _|refine Q7 ?_|refine Q3 ?_ _));exact YY.out) hb);have n1_:=Q0.mk (Qp (g:=Z0) (o:=.cells #[.slice Ya Qi.length QP,.slice Y6 Qu.length QR,.slice Yc Ql.length QS,.int .i64 Yf,.int .i64 Ye] 111 (0,0)) (by (with_reducible repeat (first|refine Q5 ?_ _|refine Q7 ?_|refine Q3 ?_ _));refine QG (cs:=#[.slice Ya Qi.length QP,.slice Y6 Qu.length QR,.slice Yc Ql.length QS,.int .i64 Yf,.int .i64 0]) ?_ 4 _ rfl;(with_reducible repeat (first|refine Q5 ?_ _|refine Q7 ?_|refine Q3 ?_ _));refine QG (cs:=#[.slice Ya Qi.length QP,.slice Y6 Qu.length QR,.slice Yc Ql.length QS,.int .i64 0,.int .i64 0]) ?_ 3 _ rfl;(with_reducible repeat (first|refine Q5 ?_ _|refine Q7 ?_|refine Q3 ?_ _));refine QG (cs:=#[.slice Ya Qi.length QP,.slice Y6 Qu.length QR,.slice none 0 0,.int .i64 0,.int .i64 0]) ?_ 2 _ rfl;(with_reducible repeat (first|refine Q5 ?_ _|refine Q7 ?_|refine Q3 ?_ _));refine QG (cs:=#[.slice Ya Qi.length QP,.slice none 0 0,.slice none 0 0,.int .i64 0,.int .i64 0]) ?_ 1 _ rfl;(with_reducible repeat (first|refine Q5 ?_ _|refine Q7 ?_|refine Q3 ?_ _));refine QG (cs:=#[.slice none 0 0,.slice none 0 0,.slice none 0 0,.int .i64 0,.int .i64 0]) ?_ 0 _ rfl;(with_reducible repeat (first|refine Q5 ?_ _|refine Q7 ?_|refine Q3 ?_ _));exact Y4.out) hb);have n2_:=Q0.mk (Qv (by repeat (first|(with_reducible first|exact HB.out|apply Q2|apply Q1|apply Q4|refine Q8 ?_ J0.out|refine Q8 ?_ Ja.out)|exact HB.out)) hb);clear YY Y4 HB;have YY:=n0_;have Y4:=n1_;have HB:=n2_;clear n0_ n1_ n2_;(try clear hb);(try clear hb2);(try clear hk);(try clear hi)))
  go_meet
  case rel=>exact ⟨_,(false),(by first|rfl|(simp;done)|(simp [*];done)),H',⟨by first|omega|exact Nat.le_refl _⟩,⟨by (with_reducible repeat (first|refine Q5 ?_ _|refine Q7 ?_|refine Q3 ?_ _));exact YY.out⟩,⟨by (with_reducible repeat (first|refine Q5 ?_ _|refine Q7 ?_|refine Q3 ?_ _));exact Y4.out⟩,⟨by repeat (first|(with_reducible first|exact HB.out|apply Q2|apply Q1|apply Q4|refine Q8 ?_ J0.out|refine Q8 ?_ Ja.out)|exact HB.out)⟩⟩
 clear HC4
 try clear c1
 try clear c2
 try clear p2
 try clear c7
 try clear c8
 try clear c11
 try clear c13
 try clear c14
 try clear c17
 try clear c20
 try clear OH
 try clear OI
 try clear Ui
 try clear Uj
 try clear Uk
 try clear Ul
 try clear Um
 try clear Un
 try clear qb3
 try clear qb4
 try clear OJ
 try clear OK
 try clear OL
 try clear qb5
 try clear qb6
 try clear Xs
 try clear Xt
 try clear qbi
 try clear qey
 try clear qez
 try clear KC
 try clear KD
 try clear KE
 try clear qeC
 try clear qeD
 try clear OM
 try clear ON
 try clear Uu
 try clear Uv
 try clear Uw
 try clear Ux
 try clear Uy
 try clear Uz
 try clear qce
 try clear qcf
 try clear OO
 try clear OP
 try clear OQ
 try clear qcg
 try clear qch
 try clear Xu
 try clear Xv
 try clear qbj
 try clear qeM
 try clear qeN
 try clear KG
 try clear KH
 try clear KI
 try clear qeQ
 try clear qeR
 obtain ⟨kq,qpb,rfl,HA,HJ3,YY,Y4,HB⟩:=hcut
 cases kq with
 | zero=>exact absurd HA.out (by simp [QM.j0])
 | succ kj3 =>
  have H:=HA.out
  clear HA
  simp only [QM.j0] at H
  have H':=Q0.mk H
  clear H
  go_wp2
  go_loopg [9,10] kj3 (fun kq v9 v10 w' => ∃ (qim:Bool) (Yt:Int),v9 = .bool qim∧v10 = .int .i64 Yt∧Q0 (QM.l0 kq l1 l2 qim Yt Qi Qu Ql Yf Ye=some (r1,r2))∧Q0 (kq≤kj3)∧Q0 (w'.heap[J3]? = some (.cells #[(.slice Ya Qi.length QP),(.slice Y6 Qu.length QR),(.slice Yc Ql.length QS),.int .i64 Yf,.int .i64 Ye] 39 (0,0)))∧Q0 (w'.heap[Z0]? = some (.cells #[(.slice Ya Qi.length QP),(.slice Y6 Qu.length QR),(.slice Yc Ql.length QS),.int .i64 Yf,.int .i64 Ye] 111 (0,0)))∧Q0 (Below w.heap.size w w'))
  case atStart=>exact ⟨(qpb),(0),(by first|rfl|(simp;done)|(simp [*];done)),(by first|rfl|(simp;done)|(simp [*];done)),H',⟨Nat.le_refl _⟩,⟨by (with_reducible repeat (first|refine Q5 ?_ _|refine Q7 ?_|refine Q3 ?_ _));exact YY.out⟩,⟨by (with_reducible repeat (first|refine Q5 ?_ _|refine Q7 ?_|refine Q3 ?_ _));exact Y4.out⟩,⟨by repeat (first|(with_reducible first|exact HB.out|apply Q2|apply Q1|apply Q4|refine Q8 ?_ J0.out|refine Q8 ?_ Ja.out)|exact HB.out)⟩⟩
  clear H'
  try clear c1
  try clear c2
  try clear p2
  try clear c7
  try clear c8
  try clear c11
  try clear c13
  try clear c14
  try clear c17
  try clear c20
  try clear OH
  try clear OI
  try clear Ui
  try clear Uj
  try clear Uk
  try clear Ul
  try clear Um
  try clear Un
  try clear qb3
  try clear qb4
  try clear OJ
  try clear OK
  try clear OL
  try clear qb5
  try clear qb6
  try clear Xs
  try clear Xt
  try clear qbi
  try clear qey
  try clear qez
  try clear KC
  try clear KD
  try clear KE
  try clear qeC
  try clear qeD
  try clear OM
  try clear ON
  try clear Uu
  try clear Uv
  try clear Uw
  try clear Ux
  try clear Uy
  try clear Uz
  try clear qce
  try clear qcf
  try clear OO
  try clear OP
  try clear OQ
  try clear qcg
  try clear qch
  try clear Xu
  try clear Xv
  try clear qbj
  try clear qeM
  try clear qeN
  try clear KG
  try clear KH
  try clear KI
  try clear qeQ
  try clear qeR
  try clear p2
  obtain ⟨qim,Yt,rfl,rfl,HA,HK2,YY,Y4,HB⟩:=hrel
  cases gk with
  | zero=>exact absurd HA.out (by simp [QM.l0])
  | succ k2 =>
   have H:=HA.out
   clear HA
   simp only [QM.l0] at H
   have qhc:=Q0.mk H
   clear H
   go_upto_region 4 with (fail)
   go_cut [39] (fun v39 wc => ∃ (kq:Nat) (qfx:Bool),v39 = .bool qfx∧Q0 (QM.j2 kq l1 l2 qim Yt qfx Qi Qu Ql Yf Ye=some (r1,r2))∧Q0 (kq≤k2)∧Q0 (wc.heap[J3]? = some (.cells #[(.slice Ya Qi.length QP),(.slice Y6 Qu.length QR),(.slice Yc Ql.length QS),.int .i64 Yf,.int .i64 Ye] 39 (0,0)))∧Q0 (wc.heap[Z0]? = some (.cells #[(.slice Ya Qi.length QP),(.slice Y6 Qu.length QR),(.slice Yc Ql.length QS),.int .i64 Yf,.int .i64 Ye] 111 (0,0)))∧Q0 (Below w.heap.size w wc))
   case first =>
    have H:=qhc.out;clear qhc
    by_cases c24:qim=true
    ·
     subst c24
     have H1:(QM.j2 k2 l1 l2 true Yt (decide (Yt<(l1.length:Int))) Qi Qu Ql Yf Ye)=some (r1,r2):=by rw [if_pos rfl] at H;exact H
     clear H;have H:=H1;clear H1;have H':=Q0.mk H;clear H
     go_wp2
     go_meet
     case rel=>exact ⟨_,(decide (Yt<(l1.length:Int))),(by first|rfl|(simp;done)|(simp [*];done)),H',⟨by have:=HJ3.out;have:=HK2.out;first|omega|exact Nat.le_refl _⟩,⟨by (with_reducible repeat (first|refine Q5 ?_ _|refine Q7 ?_|refine Q3 ?_ _));exact YY.out⟩,⟨by (with_reducible repeat (first|refine Q5 ?_ _|refine Q7 ?_|refine Q3 ?_ _));exact Y4.out⟩,⟨by repeat (first|(with_reducible first|exact HB.out|apply Q2|apply Q1|apply Q4|refine Q8 ?_ J0.out|refine Q8 ?_ Ja.out)|exact HB.out)⟩⟩
    replace c24:=Bool.eq_false_iff.mpr c24;subst c24
    have H1:(QM.j2 k2 l1 l2 false Yt false Qi Qu Ql Yf Ye)=some (r1,r2):=by rw [if_neg (show ¬ (false=true) by decide)] at H;exact H
    clear H;have H:=H1;clear H1;have H':=Q0.mk H;clear H
    go_wp2
    go_meet
    case rel=>exact ⟨_,(false),(by first|rfl|(simp;done)|(simp [*];done)),H',⟨by have:=HJ3.out;have:=HK2.out;first|omega|exact Nat.le_refl _⟩,⟨by (with_reducible repeat (first|refine Q5 ?_ _|refine Q7 ?_|refine Q3 ?_ _));exact YY.out⟩,⟨by (with_reducible repeat (first|refine Q5 ?_ _|refine Q7 ?_|refine Q3 ?_ _));exact Y4.out⟩,⟨by repeat (first|(with_reducible first|exact HB.out|apply Q2|apply Q1|apply Q4|refine Q8 ?_ J0.out|refine Q8 ?_ Ja.out)|exact HB.out)⟩⟩
   clear qhc
   try clear c1
   try clear c2
   try clear p2
   try clear c7
   try clear c8
   try clear c11
   try clear c13
   try clear c14
   try clear c17
   try clear c20
   try clear c24
   try clear OH
   try clear OI
   try clear Ui
   try clear Uj
   try clear Uk
   try clear Ul
   try clear Um
   try clear Un
   try clear qb3
   try clear qb4
   try clear OJ
   try clear OK
   try clear OL
   try clear qb5
   try clear qb6
   try clear Xs
   try clear Xt
   try clear qbi
   try clear qey
   try clear qez
   try clear KC
   try clear KD
   try clear KE
   try clear qeC
   try clear qeD
   try clear OM
   try clear ON
   try clear Uu
   try clear Uv
   try clear Uw
   try clear Ux
   try clear Uy
   try clear Uz
   try clear qce
   try clear qcf
   try clear OO
   try clear OP
   try clear OQ
   try clear qcg
   try clear qch
   try clear Xu
   try clear Xv
   try clear qbj
   try clear qeM
   try clear qeN
   try clear KG
   try clear KH
   try clear KI
   try clear qeQ
   try clear qeR
   try clear p2
   obtain ⟨kq,qfx,rfl,HA,UQ,YY,Y4,HB⟩:=hcut
   cases kq with
   | zero=>exact absurd HA.out (by simp [QM.j2])
   | succ WE =>
    have H:=HA.out;clear HA;simp only [QM.j2] at H
    by_cases c25:qfx=true
    ·
     subst c25
     have H1:(if 0≤Yt then (if Yt<(l1.length:Int) then ((Qt.f (rd l1 Yt) 0 100000000).bind fun t159=>(if t159=true then (if Yt<(l2.length:Int) then ((Qt.f (rd l2 Yt) 0 100000).bind fun qdo=>(QM.l0 WE l1 l2 qdo (wrap64 (Yt+1)) Qi Qu Ql Yf Ye)) else (none)) else (QM.l0 WE l1 l2 false (wrap64 (Yt+1)) Qi Qu Ql Yf Ye))) else (none)) else (none))=some (r1,r2):=by rw [if_pos rfl] at H;exact H
     clear H;have H:=H1;clear H1
     by_cases c26:0≤Yt
     ·
      rw [if_pos c26] at H;have c26b0:decide (0≤Yt)=true:=decide_eq_true c26;clear c26
      by_cases c27:Yt<(l1.length:Int)
      ·
       rw [if_pos c27] at H;have c27b0:decide (Yt<(l1.length:Int))=true:=decide_eq_true c27;clear c27;replace H:=Option.bind_eq_some_iff.mp H;obtain ⟨t159,qrD,H⟩:=H;replace H:(if t159=true then (if Yt<(l2.length:Int) then ((Qt.f (rd l2 Yt) 0 100000).bind fun qdo=>(QM.l0 WE l1 l2 qdo (wrap64 (Yt+1)) Qi Qu Ql Yf Ye)) else (none)) else (QM.l0 WE l1 l2 false (wrap64 (Yt+1)) Qi Qu Ql Yf Ye))=some (r1,r2):=H;have A28:=Q0.mk qrD;clear qrD
       by_cases c29:t159=true
       ·
        subst c29
        have H1:(if Yt<(l2.length:Int) then ((Qt.f (rd l2 Yt) 0 100000).bind fun qdo=>(QM.l0 WE l1 l2 qdo (wrap64 (Yt+1)) Qi Qu Ql Yf Ye)) else (none))=some (r1,r2):=by rw [if_pos rfl] at H;exact H
        clear H;have H:=H1;clear H1
        by_cases c30:Yt<(l2.length:Int)
        ·
         rw [if_pos c30] at H;have c30b0:decide (Yt<(l2.length:Int))=true:=decide_eq_true c30;clear c30;replace H:=Option.bind_eq_some_iff.mp H;obtain ⟨qdo,qrE,H⟩:=H;replace H:(QM.l0 WE l1 l2 qdo (wrap64 (Yt+1)) Qi Qu Ql Yf Ye)=some (r1,r2):=H;have A31:=Q0.mk qrE;clear qrE;have H':=Q0.mk H;clear H;have qgy:0≤(Yt:Int):=of_decide_eq_true (by first|(with_reducible assumption)|assumption);have qgA:Yt<(l1.length:Int):=of_decide_eq_true (by first|(with_reducible assumption)|assumption);obtain ⟨qsv,qqz,UA⟩:=Kd.at_int HR1.out Yt qgy qgA;cases qqz;replace UA:=(HB.out.cell (World.block_lt_of_cell? w _ UA)).trans UA;replace qgy:=eq_true qgy;replace qgA:=eq_true qgA
         go_wp2_with (first|((with_reducible refine QF (f:=65) rfl ?_);refine YE (some 46) rfl rfl Try.func65 (by kernel_rfl) rfl #[.int .i64 (rd l1 Yt),.int .i64 0,.int .i64 100000000] rfl (by (try simp only [List.map_toArray,List.map_cons,List.map_nil]);first|done|rfl|(simp only [List.length_drop,List.length_take];rfl)) ?_;(with_reducible refine (Qt.calls (rd l1 Yt) 0 100000000 true _ A28.out).mono ?_);rintro e w' ⟨rfl,⟨nd,rfl⟩⟩;refine ⟨_,rfl,?_⟩;have qoJ:0≤(Yt:Int):=of_decide_eq_true (by first|(with_reducible assumption)|assumption);have qoR:Yt<(l2.length:Int):=of_decide_eq_true (by first|(with_reducible assumption)|assumption);obtain ⟨qDp,qBl,qcz⟩:=Kd.at_int HR2.out Yt qoJ qoR;cases qBl;replace qcz:=(HB.out.cell (World.block_lt_of_cell? w _ qcz)).trans qcz;replace qoJ:=eq_true qoJ;replace qoR:=eq_true qoR)|(go_at_call 65;(with_reducible refine (Qt.calls (rd l2 Yt) 0 100000 qdo _ A31.out).mono ?_);rintro e w' ⟨rfl,⟨nd,rfl⟩⟩))
         go_roundg WE
         case measure=>have:=HJ3.out;have:=HK2.out;have:=UQ.out;omega
         case rel=>exact ⟨(qdo),(wrap64 (Yt+1)),(by first|rfl|(simp;done)|(simp [*];done)),(by first|rfl|(simp;done)|(simp [*];done)),H',⟨by have:=HJ3.out;have:=HK2.out;have:=UQ.out;omega⟩,⟨by (with_reducible repeat (first|refine Q5 ?_ _|refine Q7 ?_|refine Q3 ?_ _));exact YY.out⟩,⟨by (with_reducible repeat (first|refine Q5 ?_ _|refine Q7 ?_|refine Q3 ?_ _));exact Y4.out⟩,⟨by repeat (first|(with_reducible first|exact HB.out|apply Q2|apply Q1|apply Q4|refine Q8 ?_ J0.out|refine Q8 ?_ Ja.out)|exact HB.out)⟩⟩
        rw [if_neg c30] at H
        exact absurd H (by simp)
       replace c29:=Bool.eq_false_iff.mpr c29;subst c29
       have H1:(QM.l0 WE l1 l2 false (wrap64 (Yt+1)) Qi Qu Ql Yf Ye)=some (r1,r2):=by rw [if_neg (show ¬ (false=true) by decide)] at H;exact H
       clear H;have H:=H1;clear H1;have H':=Q0.mk H;clear H;have qgy:0≤(Yt:Int):=of_decide_eq_true (by first|(with_reducible assumption)|assumption);have qgA:Yt<(l1.length:Int):=of_decide_eq_true (by first|(with_reducible assumption)|assumption);obtain ⟨qsv,qqz,UA⟩:=Kd.at_int HR1.out Yt qgy qgA;cases qqz;replace UA:=(HB.out.cell (World.block_lt_of_cell? w _ UA)).trans UA;replace qgy:=eq_true qgy;replace qgA:=eq_true qgA
       go_wp2_with (first|((with_reducible refine QF (f:=65) rfl ?_);refine YE (some 46) rfl rfl Try.func65 (by kernel_rfl) rfl #[.int .i64 (rd l1 Yt),.int .i64 0,.int .i64 100000000] rfl (by (try simp only [List.map_toArray,List.map_cons,List.map_nil]);first|done|rfl|(simp only [List.length_drop,List.length_take];rfl)) ?_;(with_reducible refine (Qt.calls (rd l1 Yt) 0 100000000 false _ A28.out).mono ?_);rintro e w' ⟨rfl,⟨nd,rfl⟩⟩;refine ⟨_,rfl,?_⟩))
       go_roundg WE
       case measure=>have:=HJ3.out;have:=HK2.out;have:=UQ.out;omega
       case rel=>exact ⟨(false),(wrap64 (Yt+1)),(by first|rfl|(simp;done)|(simp [*];done)),(by first|rfl|(simp;done)|(simp [*];done)),H',⟨by have:=HJ3.out;have:=HK2.out;have:=UQ.out;omega⟩,⟨by (with_reducible repeat (first|refine Q5 ?_ _|refine Q7 ?_|refine Q3 ?_ _));exact YY.out⟩,⟨by (with_reducible repeat (first|refine Q5 ?_ _|refine Q7 ?_|refine Q3 ?_ _));exact Y4.out⟩,⟨by repeat (first|(with_reducible first|exact HB.out|apply Q2|apply Q1|apply Q4|refine Q8 ?_ J0.out|refine Q8 ?_ Ja.out)|exact HB.out)⟩⟩
      rw [if_neg c27] at H
      exact absurd H (by simp)
     rw [if_neg c26] at H
     exact absurd H (by simp)
    replace c25:=Bool.eq_false_iff.mpr c25;subst c25
    have H1:(if qim=true then ((Zh.f Qi Qu Ql Yf Ye).bind fun KN=>(QM.l1 WE l1 l2 ([]:List Int) (l1.length:Int) 0 Qi Qu Ql Yf Ye KN.1 KN.2.1 KN.2.2.1 KN.2.2.2.1 KN.2.2.2.2.1 KN.2.2.2.2.2)) else (some (([]:List Int),92)))=some (r1,r2):=by rw [if_neg (show ¬ (false=true) by decide)] at H;exact H
    clear H;have H:=H1;clear H1
    by_cases c32:qim=true
    ·
     subst c32
     have H1:((Zh.f Qi Qu Ql Yf Ye).bind fun KN=>(QM.l1 WE l1 l2 ([]:List Int) (l1.length:Int) 0 Qi Qu Ql Yf Ye KN.1 KN.2.1 KN.2.2.1 KN.2.2.2.1 KN.2.2.2.2.1 KN.2.2.2.2.2))=some (r1,r2):=by rw [if_pos rfl] at H;exact H
     clear H;have H:=H1;clear H1;replace H:=Option.bind_eq_some_iff.mp H;obtain ⟨⟨t162,qid,t164,qmy,qoY,t167⟩,qrF,H⟩:=H;replace H:(QM.l1 WE l1 l2 ([]:List Int) (l1.length:Int) 0 Qi Qu Ql Yf Ye t162 qid t164 qmy qoY t167)=some (r1,r2):=H;have A33:=Q0.mk qrF;clear qrF;have H':=Q0.mk H;clear H;have qEh:=W6.out;have qET:=ZO.out;have qnq:wc.cell? ⟨Z0,0,none⟩=some (.slice Ya Qi.length QP):=(Q9 Y4.out 0).trans rfl;have qnr:wc.cell? ⟨Z0,1,none⟩=some (.slice Y6 Qu.length QR):=(Q9 Y4.out 1).trans rfl;have qns:wc.cell? ⟨Z0,2,none⟩=some (.slice Yc Ql.length QS):=(Q9 Y4.out 2).trans rfl;have qnt:wc.cell? ⟨Z0,3,none⟩=some (.int .i64 Yf):=(Q9 Y4.out 3).trans rfl;have qnu:wc.cell? ⟨Z0,4,none⟩=some (.int .i64 Ye):=(Q9 Y4.out 4).trans rfl;have qn2:=Qa Y4.out 0;have qn3:=Qa Y4.out 1;have qn4:=Qa Y4.out 2;have qn5:=Qa Y4.out 3;have qn6:=Qa Y4.out 4
     go_wp2_with (first|((with_reducible refine QF (f:=78) rfl ?_);refine YE (some 57) rfl rfl Try.func78 (by kernel_rfl) rfl #[.agg #[.slice Ya Qi.length QP,.slice Y6 Qu.length QR,.slice Yc Ql.length QS,.int .i64 Yf,.int .i64 Ye]] rfl (by (try simp only [List.map_toArray,List.map_cons,List.map_nil]);first|done|rfl|(simp only [List.length_drop,List.length_take];rfl)) ?_;(with_reducible refine (Zh.calls _ _ Qi _ _ Qu _ _ Ql Yf Ye t162 qid t164 qmy qoY t167 _ ?side1 ?side2 ?side3 ?side4 ?side5 ?side6 A33.out).mono ?_);(case side1=>repeat (first|exact (Kd.C_below JI.out HB.out)|(with_reducible refine Kd.C_alloc ?_ _)|(with_reducible refine Kd.C_drewN ?_ _)|(with_reducible refine Kd.C_drew ?_)));(case side2=>exact G5.out);(case side3=>repeat (first|exact (Kd.C_below JU.out HB.out)|(with_reducible refine Kd.C_alloc ?_ _)|(with_reducible refine Kd.C_drewN ?_ _)|(with_reducible refine Kd.C_drew ?_)));(case side4=>exact G6.out);(case side5=>repeat (first|exact (Kd.C_below JV.out HB.out)|(with_reducible refine Kd.C_alloc ?_ _)|(with_reducible refine Kd.C_drewN ?_ _)|(with_reducible refine Kd.C_drew ?_)));(case side6=>exact G7.out);rintro e w36 ⟨rfl,hb⟩;refine ⟨_,rfl,?_⟩;have n0_:=Q0.mk (Qp (g:=J3) (by (with_reducible repeat (first|refine Q5 ?_ _|refine Q7 ?_|refine Q3 ?_ _));exact YY.out) hb);have n1_:=Q0.mk (Qp (g:=Z0) (by (with_reducible repeat (first|refine Q5 ?_ _|refine Q7 ?_|refine Q3 ?_ _));exact Y4.out) hb);have n2_:=Q0.mk (Qv (by repeat (first|(with_reducible first|exact HB.out|apply Q2|apply Q1|apply Q4|refine Q8 ?_ J0.out|refine Q8 ?_ Ja.out)|exact HB.out)) hb);clear YY Y4 HB;have YY:=n0_;have Y4:=n1_;have HB:=n2_;clear n0_ n1_ n2_;(try clear hb);(try clear hb2);(try clear hk);(try clear hi))|((with_reducible refine Y0 (N:=12) rfl ?_);(try (refine G4 (by rfl) ?_;dsimp only));refine Yv ?hg (N:=12) ?hd (cs:=#[.int .i64 0,.int .i64 0,.int .i64 0,.int .i64 0,.int .i64 0,.int .i64 0]) (t:=115) ?hr ?_;(case hd=>rfl);(case hg=>rfl);(case hr=>first|(go_simp;done)|(go_simp;rfl));intro Yy hg w37 hbox hb;have n0_:=Q0.mk (Qp (g:=J3) (by (with_reducible repeat (first|refine Q5 ?_ _|refine Q7 ?_|refine Q3 ?_ _));exact YY.out) hb);have n1_:=Q0.mk (Qp (g:=Z0) (by (with_reducible repeat (first|refine Q5 ?_ _|refine Q7 ?_|refine Q3 ?_ _));exact Y4.out) hb);have n2_:=Q0.mk (Qv (by repeat (first|(with_reducible first|exact HB.out|apply Q2|apply Q1|apply Q4|refine Q8 ?_ J0.out|refine Q8 ?_ Ja.out)|exact HB.out)) hb);have n3_:=Q0.mk (hbox);have n4_:=Q0.mk ((by rw [hg];exact (Qn (by repeat (first|(with_reducible first|exact HB.out|apply Q2|apply Q1|apply Q4|refine Q8 ?_ J0.out|refine Q8 ?_ Ja.out)|exact HB.out))):w.heap.size≤Yy));have n5_:=n4_;have n6_:=Q0.mk ((by rw [hg];exact Nat.ne_of_lt (QT (g:=J3) (by (with_reducible repeat (first|refine Q5 ?_ _|refine Q7 ?_|refine Q3 ?_ _));exact YY.out)):J3≠Yy));have n7_:=Q0.mk (n6_.out.symm);have n8_:=Q0.mk ((by rw [hg];exact Nat.ne_of_lt (QT (g:=Z0) (by (with_reducible repeat (first|refine Q5 ?_ _|refine Q7 ?_|refine Q3 ?_ _));exact Y4.out)):Z0≠Yy));have n9_:=Q0.mk (n8_.out.symm);clear YY Y4 HB;have YY:=n0_;have Y4:=n1_;have HB:=n2_;have YH:=n3_;have qDb:=n4_;have Ov:=n5_;have ZV:=n6_;have O8:=n7_;have ZW:=n8_;have O9:=n9_;clear n0_ n1_ n2_ n3_ n4_ n5_ n6_ n7_ n8_ n9_ hb hbox hg;have qEj:=O8.out;have qEV:=ZV.out;have qp1:=O9.out;have qp2:=ZW.out;have qb7:w37.cell? ⟨Yy,0,none⟩=some (.int .i64 0):=(Q9 YH.out 0).trans rfl;have qb8:w37.cell? ⟨Yy,1,none⟩=some (.int .i64 0):=(Q9 YH.out 1).trans rfl;have qb9:w37.cell? ⟨Yy,2,none⟩=some (.int .i64 0):=(Q9 YH.out 2).trans rfl;have qnB:w37.cell? ⟨Yy,3,none⟩=some (.int .i64 0):=(Q9 YH.out 3).trans rfl;have qnC:w37.cell? ⟨Yy,4,none⟩=some (.int .i64 0):=(Q9 YH.out 4).trans rfl;have qnD:w37.cell? ⟨Yy,5,none⟩=some (.int .i64 0):=(Q9 YH.out 5).trans rfl;have qci:=Qa YH.out 0;have qcj:=Qa YH.out 1;have qck:=Qa YH.out 2;have qod:=Qa YH.out 3;have qoe:=Qa YH.out 4;have qof:=Qa YH.out 5))
     go_loopg [13,60] WE (fun kq v13 v60 w' => ∃ (Gr:List Int) (Jf:Int) (Zz:Int) (Zq:Int) (Zn:Int) (Zi:Int) (Zf:Int) (Za:Int),v60 = .int .i64 Jf∧Q0 (QM.l1 kq l1 l2 Gr (l1.length:Int) Jf Qi Qu Ql Yf Ye Zz Zq Zn Zi Zf Za=some (r1,r2))∧Q0 (kq≤WE)∧Q0 (Kd.R (Kd.int .i64) 3 w' w.heap.size (fun k_=>(w.heap.size≤k_)) v13 Gr)∧Q0 (w'.heap[J3]? = some (.cells #[(.slice Ya Qi.length QP),(.slice Y6 Qu.length QR),(.slice Yc Ql.length QS),.int .i64 Yf,.int .i64 Ye] 39 (0,0)))∧Q0 (w'.heap[Z0]? = some (.cells #[(.slice Ya Qi.length QP),(.slice Y6 Qu.length QR),(.slice Yc Ql.length QS),.int .i64 Yf,.int .i64 Ye] 111 (0,0)))∧Q0 (w'.heap[Yy]? = some (.cells #[.int .i64 Zz,.int .i64 Zq,.int .i64 Zn,.int .i64 Zi,.int .i64 Zf,.int .i64 Za] 115 (0,0)))∧Q0 (Below w.heap.size w w'))
     case atStart=>exact ⟨(([]:List Int)),(0),(t162),(qid),(t164),(qmy),(qoY),(t167),(by first|rfl|(simp;done)|(simp [*];done)),H',⟨Nat.le_refl _⟩,⟨by first|exact Kd.R_nil _ _ _ _ _|exact Kd.N_nil _ _ _ _ _|exact Kd.V_nil _ _ _ _ _|exact Kd.Q_nil _ _ _ _ _|exact Kd.S_nil _ _ _ _ _⟩,⟨by (with_reducible repeat (first|refine Q5 ?_ _|refine Q7 ?_|refine Q3 ?_ _));refine Qx ?_ ZV.out _;(with_reducible repeat (first|refine Q5 ?_ _|refine Q7 ?_|refine Q3 ?_ _));refine Qx ?_ ZV.out _;(with_reducible repeat (first|refine Q5 ?_ _|refine Q7 ?_|refine Q3 ?_ _));refine Qx ?_ ZV.out _;(with_reducible repeat (first|refine Q5 ?_ _|refine Q7 ?_|refine Q3 ?_ _));refine Qx ?_ ZV.out _;(with_reducible repeat (first|refine Q5 ?_ _|refine Q7 ?_|refine Q3 ?_ _));refine Qx ?_ ZV.out _;(with_reducible repeat (first|refine Q5 ?_ _|refine Q7 ?_|refine Q3 ?_ _));refine Qx ?_ ZV.out _;(with_reducible repeat (first|refine Q5 ?_ _|refine Q7 ?_|refine Q3 ?_ _));exact YY.out⟩,⟨by (with_reducible repeat (first|refine Q5 ?_ _|refine Q7 ?_|refine Q3 ?_ _));refine Qx ?_ ZW.out _;(with_reducible repeat (first|refine Q5 ?_ _|refine Q7 ?_|refine Q3 ?_ _));refine Qx ?_ ZW.out _;(with_reducible repeat (first|refine Q5 ?_ _|refine Q7 ?_|refine Q3 ?_ _));refine Qx ?_ ZW.out _;(with_reducible repeat (first|refine Q5 ?_ _|refine Q7 ?_|refine Q3 ?_ _));refine Qx ?_ ZW.out _;(with_reducible repeat (first|refine Q5 ?_ _|refine Q7 ?_|refine Q3 ?_ _));refine Qx ?_ ZW.out _;(with_reducible repeat (first|refine Q5 ?_ _|refine Q7 ?_|refine Q3 ?_ _));refine Qx ?_ ZW.out _;(with_reducible repeat (first|refine Q5 ?_ _|refine Q7 ?_|refine Q3 ?_ _));exact Y4.out⟩,⟨by (with_reducible repeat (first|refine Q5 ?_ _|refine Q7 ?_|refine Q3 ?_ _));refine QG (cs:=#[.int .i64 t162,.int .i64 qid,.int .i64 t164,.int .i64 qmy,.int .i64 qoY,.int .i64 0]) ?_ 5 _ rfl;(with_reducible repeat (first|refine Q5 ?_ _|refine Q7 ?_|refine Q3 ?_ _));refine QG (cs:=#[.int .i64 t162,.int .i64 qid,.int .i64 t164,.int .i64 qmy,.int .i64 0,.int .i64 0]) ?_ 4 _ rfl;(with_reducible repeat (first|refine Q5 ?_ _|refine Q7 ?_|refine Q3 ?_ _));refine QG (cs:=#[.int .i64 t162,.int .i64 qid,.int .i64 t164,.int .i64 0,.int .i64 0,.int .i64 0]) ?_ 3 _ rfl;(with_reducible repeat (first|refine Q5 ?_ _|refine Q7 ?_|refine Q3 ?_ _));refine QG (cs:=#[.int .i64 t162,.int .i64 qid,.int .i64 0,.int .i64 0,.int .i64 0,.int .i64 0]) ?_ 2 _ rfl;(with_reducible repeat (first|refine Q5 ?_ _|refine Q7 ?_|refine Q3 ?_ _));refine QG (cs:=#[.int .i64 t162,.int .i64 0,.int .i64 0,.int .i64 0,.int .i64 0,.int .i64 0]) ?_ 1 _ rfl;(with_reducible repeat (first|refine Q5 ?_ _|refine Q7 ?_|refine Q3 ?_ _));refine QG (cs:=#[.int .i64 0,.int .i64 0,.int .i64 0,.int .i64 0,.int .i64 0,.int .i64 0]) ?_ 0 _ rfl;(with_reducible repeat (first|refine Q5 ?_ _|refine Q7 ?_|refine Q3 ?_ _));exact YH.out⟩,⟨by repeat (first|(with_reducible first|exact HB.out|apply Q2|apply Q1|apply Q4|refine Q8 ?_ J0.out|refine Q8 ?_ Ja.out|refine Q8 ?_ Ov.out)|exact HB.out)⟩⟩
     clear H';(try clear c1);(try clear p1);(try clear q1);(try clear hx1);(try clear c2);(try clear p2);(try clear c3);(try clear c6);(try clear p6);(try clear c7);(try clear c8);(try clear c11);(try clear c13);(try clear c14);(try clear p15);(try clear q15);(try clear qGO);(try clear p16);(try clear q16);(try clear hx16);(try clear c17);(try clear c20);(try clear c24);(try clear c25);(try clear c26);(try clear c26b0);(try clear c27);(try clear c27b0);(try clear c29);(try clear c30);(try clear c30b0);(try clear c32);(try clear c34);(try clear c38);(try clear c39);(try clear OH);(try clear OI);(try clear Ui);(try clear Uj);(try clear Uk);(try clear Ul);(try clear Um);(try clear Un);(try clear qb3);(try clear qb4);(try clear OJ);(try clear OK);(try clear OL);(try clear qb5);(try clear qb6);(try clear qnq);(try clear qnr);(try clear qns);(try clear qnt);(try clear qnu);(try clear qb7);(try clear qb8);(try clear qb9);(try clear qnB);(try clear qnC);(try clear qnD);(try clear Xs);(try clear Xt);(try clear qbi);(try clear qey);(try clear qez);(try clear KC);(try clear KD);(try clear KE);(try clear qeC);(try clear qeD);(try clear OM);(try clear ON);(try clear Uu);(try clear Uv);(try clear Uw);(try clear Ux);(try clear Uy);(try clear Uz);(try clear qce);(try clear qcf);(try clear OO);(try clear OP);(try clear OQ);(try clear qcg);(try clear qch);(try clear qn2);(try clear qn3);(try clear qn4);(try clear qn5);(try clear qn6);(try clear qci);(try clear qcj);(try clear qck);(try clear qod);(try clear qoe);(try clear qof);(try clear Xu);(try clear Xv);(try clear qbj);(try clear qeM);(try clear qeN);(try clear KG);(try clear KH);(try clear KI);(try clear qeQ);(try clear qeR);(try clear UA);(try clear qcz);(try clear qgy);(try clear qoJ);(try clear p2);(try clear qgA);(try clear qoR);obtain ⟨Gr,Jf,Zz,Zq,Zn,Zi,Zf,Za,rfl,HA,HK4,HO_13,YY,Y4,YH,HB⟩:=hrel
     cases gk with
     | zero=>exact absurd HA.out (by simp [QM.l1])
     | succ k4 =>
      have H:=HA.out;clear HA;simp only [QM.l1] at H
      by_cases c41:Jf<(l1.length:Int)
      ·
       rw [if_pos c41] at H;have c41b0:decide (Jf<(l1.length:Int))=true:=decide_eq_true c41;clear c41
       by_cases c42:0≤Jf
       ·
        rw [if_pos c42] at H;have c42b0:decide (0≤Jf)=true:=decide_eq_true c42;clear c42
        by_cases c43:Jf<(l1.length:Int)
        ·
         rw [if_pos c43] at H;have c43b0:decide (Jf<(l1.length:Int))=true:=decide_eq_true c43;clear c43
         by_cases c44:Jf<(l2.length:Int)
         ·
          rw [if_pos c44] at H;have c44b0:decide (Jf<(l2.length:Int))=true:=decide_eq_true c44;clear c44;replace H:=Option.bind_eq_some_iff.mp H;obtain ⟨⟨t171,KQ,t173,OA,t175,U5,Wh⟩,qkT,H⟩:=H;replace H:(if Gr.length<17592186044416 then (QM.l1 k4 l1 l2 (Gr++[t171]) (l1.length:Int) (wrap64 (Jf+1)) Qi Qu Ql Yf Ye KQ t173 OA t175 U5 Wh) else (none))=some (r1,r2):=H;have A45:=Q0.mk qkT;clear qkT
          by_cases c46:Gr.length<17592186044416
          ·
           rw [if_pos c46] at H;have qsh:=Q0.mk c46;clear c46;obtain ⟨qu7,qf0⟩:∃ y_:List Int,y_=(Gr++[t171]):=⟨_,rfl⟩
           replace H:(QM.l1 k4 l1 l2 qu7 (l1.length:Int) (wrap64 (Jf+1)) Qi Qu Ql Yf Ye KQ t173 OA t175 U5 Wh)=some (r1,r2):=by first|(rw [qf0];with_reducible exact H)|(have H2_:=(Option.bind_some _ _).symm.trans H;rw [qf0];with_reducible exact H2_)|(have H2_:=(Option.bind_some _ _).symm.trans H;with_reducible exact H2_)|with_reducible exact H|(rw [qf0];exact H)|exact H
           have qsj:=Q0.mk qf0;clear qf0;have H':=Q0.mk H;clear H
           try go_wp2
           have n0_:=Q0.mk (Kd.R_drew HO_13.out);have n1_:=Q0.mk (Q7 YY.out);have n2_:=Q0.mk (Q7 Y4.out);have n3_:=Q0.mk (Q7 YH.out);have n4_:=Q0.mk (Q4 HB.out);clear HO_13 YY Y4 YH HB;have HO_13:=n0_;have YY:=n1_;have Y4:=n2_;have YH:=n3_;have HB:=n4_;clear n0_ n1_ n2_ n3_ n4_;have qq3:0≤(Jf:Int):=of_decide_eq_true (by first|(with_reducible assumption)|assumption);have qrh:Jf<(l1.length:Int):=of_decide_eq_true (by first|(with_reducible assumption)|assumption);obtain ⟨qlh,e169,qaD⟩:=Kd.at_int HR1.out Jf qq3 qrh;have Zv:=qaD;cases e169;replace qaD:=(HB.out.cell (World.block_lt_of_cell? w _ qaD)).trans qaD;replace qq3:=eq_true qq3;replace qrh:=eq_true qrh;have qq4:0≤(Jf:Int):=of_decide_eq_true (by first|(with_reducible assumption)|assumption);have qri:Jf<(l2.length:Int):=of_decide_eq_true (by first|(with_reducible assumption)|assumption);obtain ⟨qli,e170,qaE⟩:=Kd.at_int HR2.out Jf qq4 qri;have Zw:=qaE;cases e170;replace qaE:=(HB.out.cell (World.block_lt_of_cell? w _ qaE)).trans qaE;replace qq4:=eq_true qq4;replace qri:=eq_true qri;refine GU (n:=18) (S:=fun w'=>w'.cell? ⟨Z0,0,none⟩=some (.slice Ya Qi.length QP)∧w'.cell? ⟨Z0,1,none⟩=some (.slice Y6 Qu.length QR)∧w'.cell? ⟨Z0,2,none⟩=some (.slice Yc Ql.length QS)∧w'.cell? ⟨Z0,3,none⟩=some (.int .i64 Yf)∧w'.cell? ⟨Z0,4,none⟩=some (.int .i64 Ye)∧w'.cell? ⟨Yy,0,none⟩=some (.int .i64 Zz)∧w'.cell? ⟨Yy,1,none⟩=some (.int .i64 Zq)∧w'.cell? ⟨Yy,2,none⟩=some (.int .i64 Zn)∧w'.cell? ⟨Yy,3,none⟩=some (.int .i64 Zi)∧w'.cell? ⟨Yy,4,none⟩=some (.int .i64 Zf)∧w'.cell? ⟨Yy,5,none⟩=some (.int .i64 Za)∧w'.cell? (qlh.add (Jf).toNat)=some (.int .i64 (rd l1 Jf))∧w'.cell? (qli.add (Jf).toNat)=some (.int .i64 (rd l2 Jf))) (ds:=[]) (Qg 18 0) (by kernel_rfl) rfl rfl ⟨(Q9 Y4.out 0).trans rfl,(Q9 Y4.out 1).trans rfl,(Q9 Y4.out 2).trans rfl,(Q9 Y4.out 3).trans rfl,(Q9 Y4.out 4).trans rfl,(Q9 YH.out 0).trans rfl,(Q9 YH.out 1).trans rfl,(Q9 YH.out 2).trans rfl,(Q9 YH.out 3).trans rfl,(Q9 YH.out 4).trans rfl,(Q9 YH.out 5).trans rfl,((HB.out.cell (World.block_lt_of_cell? w _ Zv)).trans Zv),((HB.out.cell (World.block_lt_of_cell? w _ Zw)).trans Zw)⟩ (fun hHeld => ?_);refine Jn QM.tab15 QM.bits15 (fun HT_ HW_ => ?_)
           generalize wr.drew=w47 at HO_13 YY Y4 YH HB qaD qaE hHeld ⊢
           refine Qh 0 (some 64) (Qg 18 1) rfl rfl HT_.out (by kernel_rfl) (fun _ _ _ h=>h) ⟨.inl ⟨by rfl,fun w'=>by go_simp;with_reducible rfl⟩,by simp only [Qf,Qb,Qe,Qd,Qc,Qk,Qm];rfl,?_⟩;refine Qh 3 (some 67) (Qg 18 9) rfl rfl HT_.out (by kernel_rfl) (fun _ _ _ h=>h) ⟨.inl ⟨by rfl,fun w'=>by go_simp;with_reducible rfl⟩,by simp only [Qf,Qb,Qe,Qd,Qc,Qk,Qm];rfl,?_⟩;refine Qh 4 (some 68) (Qg 18 25) rfl rfl HT_.out (by kernel_rfl) (fun _ _ _ h=>h) ⟨.inl ⟨by rfl,fun w'=>by go_simp;with_reducible rfl⟩,by simp only [Qf,Qb,Qe,Qd,Qc,Qk,Qm];rfl,?_⟩;refine Qh 5 (some 69) (Qg 18 57) rfl rfl HT_.out (by kernel_rfl) (fun _ _ _ h=>h) ⟨.inl ⟨by rfl,fun w'=>by go_simp;with_reducible rfl⟩,by simp only [Qf,Qb,Qe,Qd,Qc,Qk,Qm];rfl,?_⟩;refine Qh 7 (some 71) (Qg 18 185) rfl rfl HT_.out (by kernel_rfl) (fun _ _ _ h=>h) ⟨.inl ⟨by rfl,fun w'=>by go_simp;with_reducible rfl⟩,by simp only [Qf,Qb,Qe,Qd,Qc,Qk,Qm];rfl,?_⟩;refine Qh 8 (some 72) (Qg 18 441) rfl rfl HT_.out (by kernel_rfl) (fun _ _ _ h=>h) ⟨.inl ⟨by rfl,fun w'=>by go_simp;with_reducible rfl⟩,by simp only [Qf,Qb,Qe,Qd,Qc,Qk,Qm];rfl,?_⟩;refine Qh 9 (some 73) (Qg 18 953) rfl rfl HT_.out (by kernel_rfl) (fun _ _ _ h=>h) ⟨.inl ⟨by rfl,fun w'=>by go_simp;with_reducible rfl⟩,by simp only [Qf,Qb,Qe,Qd,Qc,Qk,Qm];rfl,?_⟩;refine Yn 1 (some 65) (Qg 18 955) rfl rfl (Yo HT_.out HW_.out (by kernel_rfl)) (fun _ _ _ h=>h) hHeld ⟨.inl ⟨by rfl,by rintro w' ⟨s0,s1,s2,s3,s4,s5,s6,s7,s8,s9,s10,s11,s12⟩;go_simp;with_reducible rfl⟩,by simp only [Qf,Qb,Qe,Qd,Qc,Qk,Qm];rfl,?_⟩;refine Yn 2 (some 66) (Qg 18 959) rfl rfl (Yo HT_.out HW_.out (by kernel_rfl)) (fun _ _ _ h=>h) hHeld ⟨.inl ⟨by rfl,by rintro w' ⟨s0,s1,s2,s3,s4,s5,s6,s7,s8,s9,s10,s11,s12⟩;go_simp;with_reducible rfl⟩,by simp only [Qf,Qb,Qe,Qd,Qc,Qk,Qm];rfl,?_⟩;refine Yn 6 (some 70) (Qg 18 1023) rfl rfl (Yo HT_.out HW_.out (by kernel_rfl)) (fun _ _ _ h=>h) hHeld ⟨.inl ⟨by rfl,by rintro w' ⟨s0,s1,s2,s3,s4,s5,s6,s7,s8,s9,s10,s11,s12⟩;go_simp;with_reducible rfl⟩,by simp only [Qf,Qb,Qe,Qd,Qc,Qk,Qm];rfl,?_⟩;refine Yn 10 (some 74) (Qg 18 2047) rfl rfl (Yo HT_.out HW_.out (by kernel_rfl)) (fun _ _ _ h=>h) hHeld ⟨.inl ⟨by rfl,by rintro w' ⟨s0,s1,s2,s3,s4,s5,s6,s7,s8,s9,s10,s11,s12⟩;go_simp;with_reducible rfl⟩,by simp only [Qf,Qb,Qe,Qd,Qc,Qk,Qm];rfl,?_⟩;refine qp8 (σ:=Nat) 2 (Qg 18 65535) (fun s_=>[(75,.tuple #[.int .i64 t171,.agg #[.int .i64 KQ,.int .i64 t173,.int .i64 OA,.int .i64 t175,.int .i64 U5,.int .i64 Wh]]),(16,.pointer (some ⟨s_,0,none⟩)),(63,.tuple #[.int .i64 t171,.agg #[.int .i64 KQ,.int .i64 t173,.int .i64 OA,.int .i64 t175,.int .i64 U5,.int .i64 Wh]]),(76,.int .i64 t171),(77,.agg #[.int .i64 KQ,.int .i64 t173,.int .i64 OA,.int .i64 t175,.int .i64 U5,.int .i64 Wh])]) (fun s_ w'=>(w'.cell? ⟨Z0,0,none⟩=some (.slice Ya Qi.length QP)∧w'.cell? ⟨Z0,1,none⟩=some (.slice Y6 Qu.length QR)∧w'.cell? ⟨Z0,2,none⟩=some (.slice Yc Ql.length QS)∧w'.cell? ⟨Z0,3,none⟩=some (.int .i64 Yf)∧w'.cell? ⟨Z0,4,none⟩=some (.int .i64 Ye)∧w'.cell? ⟨Yy,0,none⟩=some (.int .i64 Zz)∧w'.cell? ⟨Yy,1,none⟩=some (.int .i64 Zq)∧w'.cell? ⟨Yy,2,none⟩=some (.int .i64 Zn)∧w'.cell? ⟨Yy,3,none⟩=some (.int .i64 Zi)∧w'.cell? ⟨Yy,4,none⟩=some (.int .i64 Zf)∧w'.cell? ⟨Yy,5,none⟩=some (.int .i64 Za)∧w'.cell? (qlh.add (Jf).toNat)=some (.int .i64 (rd l1 Jf))∧w'.cell? (qli.add (Jf).toNat)=some (.int .i64 (rd l2 Jf)))∧(Kd.R (Kd.int .i64) 3 w' w.heap.size (fun k_=>(w.heap.size≤k_)) u13 Gr)∧(w'.heap[J3]? = some (.cells #[.slice Ya Qi.length QP,.slice Y6 Qu.length QR,.slice Yc Ql.length QS,.int .i64 Yf,.int .i64 Ye] 39 (0,0)))∧(w'.heap[Z0]? = some (.cells #[.slice Ya Qi.length QP,.slice Y6 Qu.length QR,.slice Yc Ql.length QS,.int .i64 Yf,.int .i64 Ye] 111 (0,0)))∧(w'.heap[Yy]? = some (.cells #[.int .i64 Zz,.int .i64 Zq,.int .i64 Zn,.int .i64 Zi,.int .i64 Zf,.int .i64 Za] 115 (0,0)))∧(w'.heap[s_]? = some (.cells #[.int .i64 0,.int .i64 0,.int .i64 0,.int .i64 0,.int .i64 0,.int .i64 0] 115 (0,0)))∧(w.heap.size≤s_)∧(w.heap.size≤s_)∧(J3≠s_)∧(s_≠J3)∧(Z0≠s_)∧(s_≠Z0)∧(Yy≠s_)∧(s_≠Yy)∧(Below w.heap.size w w')) ?_ ?_;rotate_left
           ·
            intro hCont;refine two_ (i:=11) (j:=15) (Ni:=some 75) (Nj:=some 16) (Qg 18 4095) (Qg 18 34815) rfl rfl rfl rfl (qmD HT_.out (by kernel_rfl)) (by decide) (by decide) (fun K hK => ?_) (fun K hK => ?_)
            ·
             skip
             refine qep Try.func77 (by kernel_rfl) rfl #[.agg #[.slice Ya Qi.length QP,.slice Y6 Qu.length QR,.slice Yc Ql.length QS,.int .i64 Yf,.int .i64 Ye],.agg #[.int .i64 Zz,.int .i64 Zq,.int .i64 Zn,.int .i64 Zi,.int .i64 Zf,.int .i64 Za],.int .i64 (rd l1 Jf),.int .i64 (rd l2 Jf)] 64 (by rfl) rfl rfl rfl (by (try simp only [List.map_toArray,List.map_cons,List.map_nil]);first|done|rfl|(simp only [List.length_drop,List.length_take];rfl)) ?_
             with_reducible refine (Zp.calls _ _ Qi _ _ Qu _ _ Ql Yf Ye Zz Zq Zn Zi Zf Za (rd l1 Jf) (rd l2 Jf) t171 KQ t173 OA t175 U5 Wh _ ?side1 ?side2 ?side3 ?side4 ?side5 ?side6 A45.out).mono ?_
             (case side1=>repeat (first|exact (Kd.C_below JI.out HB.out)|(with_reducible refine Kd.C_alloc ?_ _)|(with_reducible refine Kd.C_drewN ?_ _)|(with_reducible refine Kd.C_drew ?_)))
             (case side2=>exact G5.out)
             (case side3=>repeat (first|exact (Kd.C_below JU.out HB.out)|(with_reducible refine Kd.C_alloc ?_ _)|(with_reducible refine Kd.C_drewN ?_ _)|(with_reducible refine Kd.C_drew ?_)))
             (case side4=>exact G6.out)
             (case side5=>repeat (first|exact (Kd.C_below JV.out HB.out)|(with_reducible refine Kd.C_alloc ?_ _)|(with_reducible refine Kd.C_drewN ?_ _)|(with_reducible refine Kd.C_drew ?_)))
             (case side6=>exact G7.out)
             rintro e w48 ⟨rfl,hb⟩;refine ⟨_,rfl,?_⟩;have n0_:=Q0.mk (Kd.R_below (by (with_reducible repeat (first|apply Kd.R_alloc|apply Kd.R_drewN|apply Kd.R_drew));exact HO_13.out) hb);have n1_:=Q0.mk (Qp (g:=J3) (by (with_reducible repeat (first|refine Q5 ?_ _|refine Q7 ?_|refine Q3 ?_ _));exact YY.out) hb);have n2_:=Q0.mk (Qp (g:=Z0) (by (with_reducible repeat (first|refine Q5 ?_ _|refine Q7 ?_|refine Q3 ?_ _));exact Y4.out) hb);have n3_:=Q0.mk (Qp (g:=Yy) (by (with_reducible repeat (first|refine Q5 ?_ _|refine Q7 ?_|refine Q3 ?_ _));exact YH.out) hb);have n4_:=Q0.mk (Qv (by repeat (first|(with_reducible first|exact HB.out|apply Q2|apply Q1|apply Q4|refine Q8 ?_ J0.out|refine Q8 ?_ Ja.out|refine Q8 ?_ Ov.out)|exact HB.out)) hb);clear HO_13 YY Y4 YH HB;have HO_13:=n0_;have YY:=n1_;have Y4:=n2_;have YH:=n3_;have HB:=n4_;clear n0_ n1_ n2_ n3_ n4_
             (try clear hb)
             (try clear hb2)
             (try clear hk)
             (try clear hi)
             refine hK.out _ _ ⟨(Q9 Y4.out 0).trans rfl,(Q9 Y4.out 1).trans rfl,(Q9 Y4.out 2).trans rfl,(Q9 Y4.out 3).trans rfl,(Q9 Y4.out 4).trans rfl,(Q9 YH.out 0).trans rfl,(Q9 YH.out 1).trans rfl,(Q9 YH.out 2).trans rfl,(Q9 YH.out 3).trans rfl,(Q9 YH.out 4).trans rfl,(Q9 YH.out 5).trans rfl,((HB.out.cell (World.block_lt_of_cell? w _ Zv)).trans Zv),((HB.out.cell (World.block_lt_of_cell? w _ Zw)).trans Zw)⟩ (fun hHeld => ?_);clear hK K;refine G9 (a':=?_) ?_ ?_;rotate_left
             ·
              show Act.put _ (some 75) _=_
              simp only [Qf,Qb,Qe,Qd,Qc,Qk,Qm];rfl
             refine Qh 12 (some 63) (Qg 18 8191) rfl rfl HT_.out (by kernel_rfl) (fun _ _ _ h=>h) ⟨.inl ⟨by rfl,fun w'=>by go_simp;with_reducible rfl⟩,by simp only [Qf,Qb,Qe,Qd,Qc,Qk,Qm];rfl,?_⟩;refine Qh 13 (some 76) (Qg 18 16383) rfl rfl HT_.out (by kernel_rfl) (fun _ _ _ h=>h) ⟨.inl ⟨by rfl,fun w'=>by go_simp;with_reducible rfl⟩,by simp only [Qf,Qb,Qe,Qd,Qc,Qk,Qm];rfl,?_⟩;refine Qh 14 (some 77) (Qg 18 32767) rfl rfl HT_.out (by kernel_rfl) (fun _ _ _ h=>h) ⟨.inl ⟨by rfl,fun w'=>by go_simp;with_reducible rfl⟩,by simp only [Qf,Qb,Qe,Qd,Qc,Qk,Qm];rfl,?_⟩;refine one_ (i:=15) (N:=some 16) (Qg 18 65535) rfl rfl (Gf HT_.out (by kernel_rfl)) (by decide) (fun K hK => ?_);refine XT ?hg (N:=16) ?hd (cs:=#[.int .i64 0,.int .i64 0,.int .i64 0,.int .i64 0,.int .i64 0,.int .i64 0]) (t:=115) ?hr ?_;(case hd=>rfl);(case hg=>rfl);(case hr=>first|(go_simp;done)|(go_simp;rfl));intro QQ hg w49 hbox hb;have n0_:=Q0.mk (Kd.R_below (by (with_reducible repeat (first|apply Kd.R_alloc|apply Kd.R_drewN|apply Kd.R_drew));exact HO_13.out) hb);have n1_:=Q0.mk (Qp (g:=J3) (by (with_reducible repeat (first|refine Q5 ?_ _|refine Q7 ?_|refine Q3 ?_ _));exact YY.out) hb);have n2_:=Q0.mk (Qp (g:=Z0) (by (with_reducible repeat (first|refine Q5 ?_ _|refine Q7 ?_|refine Q3 ?_ _));exact Y4.out) hb);have n3_:=Q0.mk (Qp (g:=Yy) (by (with_reducible repeat (first|refine Q5 ?_ _|refine Q7 ?_|refine Q3 ?_ _));exact YH.out) hb);have n4_:=Q0.mk (Qv (by repeat (first|(with_reducible first|exact HB.out|apply Q2|apply Q1|apply Q4|refine Q8 ?_ J0.out|refine Q8 ?_ Ja.out|refine Q8 ?_ Ov.out)|exact HB.out)) hb);have n5_:=Q0.mk (hbox);have n6_:=Q0.mk ((by rw [hg];exact (Qn (by repeat (first|(with_reducible first|exact HB.out|apply Q2|apply Q1|apply Q4|refine Q8 ?_ J0.out|refine Q8 ?_ Ja.out|refine Q8 ?_ Ov.out)|exact HB.out))):w.heap.size≤QQ));have n7_:=n6_;have n8_:=Q0.mk ((by rw [hg];exact Nat.ne_of_lt (QT (g:=J3) (by (with_reducible repeat (first|refine Q5 ?_ _|refine Q7 ?_|refine Q3 ?_ _));exact YY.out)):J3≠QQ));have n9_:=Q0.mk (n8_.out.symm);have n10_:=Q0.mk ((by rw [hg];exact Nat.ne_of_lt (QT (g:=Z0) (by (with_reducible repeat (first|refine Q5 ?_ _|refine Q7 ?_|refine Q3 ?_ _));exact Y4.out)):Z0≠QQ));have n11_:=Q0.mk (n10_.out.symm);have n12_:=Q0.mk ((by rw [hg];exact Nat.ne_of_lt (QT (g:=Yy) (by (with_reducible repeat (first|refine Q5 ?_ _|refine Q7 ?_|refine Q3 ?_ _));exact YH.out)):Yy≠QQ));have n13_:=Q0.mk (n12_.out.symm);clear HO_13 YY Y4 YH HB;have HO_13:=n0_;have YY:=n1_;have Y4:=n2_;have YH:=n3_;have HB:=n4_;have ZK:=n5_;have ZG:=n6_;have WB:=n7_;have Jl:=n8_;have Gt:=n9_;have Ys:=n10_;have Gu:=n11_;have Yb:=n12_;have Yi:=n13_;clear n0_ n1_ n2_ n3_ n4_ n5_ n6_ n7_ n8_ n9_ n10_ n11_ n12_ n13_ hb hbox hg;refine hK.out _ _ ⟨(Q9 Y4.out 0).trans rfl,(Q9 Y4.out 1).trans rfl,(Q9 Y4.out 2).trans rfl,(Q9 Y4.out 3).trans rfl,(Q9 Y4.out 4).trans rfl,(Q9 YH.out 0).trans rfl,(Q9 YH.out 1).trans rfl,(Q9 YH.out 2).trans rfl,(Q9 YH.out 3).trans rfl,(Q9 YH.out 4).trans rfl,(Q9 YH.out 5).trans rfl,((HB.out.cell (World.block_lt_of_cell? w _ Zv)).trans Zv),((HB.out.cell (World.block_lt_of_cell? w _ Zw)).trans Zw)⟩ (fun hHeld => ?_);clear hK K;refine G9 (a':=?_) ?_ ?_;rotate_left
             ·
              show Act.put _ (some 16) _=_
              simp only [Qf,Qb,Qe,Qd,Qc,Qk,Qm];rfl
             exact G9 (by simp only [Wv,Act.put,List.setIfInBounds_toArray,List.set_cons_zero,List.set_cons_succ]) (hCont (QQ) _ ⟨hHeld,(by (with_reducible repeat (first|apply Kd.R_alloc|apply Kd.R_drewN|apply Kd.R_drew));exact HO_13.out),(by (with_reducible repeat (first|refine Q5 ?_ _|refine Q7 ?_|refine Q3 ?_ _));exact YY.out),(by (with_reducible repeat (first|refine Q5 ?_ _|refine Q7 ?_|refine Q3 ?_ _));exact Y4.out),(by (with_reducible repeat (first|refine Q5 ?_ _|refine Q7 ?_|refine Q3 ?_ _));exact YH.out),(by (with_reducible repeat (first|refine Q5 ?_ _|refine Q7 ?_|refine Q3 ?_ _));exact ZK.out),ZG.out,WB.out,Jl.out,Gt.out,Ys.out,Gu.out,Yb.out,Yi.out,(by repeat (first|(with_reducible first|exact HB.out|apply Q2|apply Q1|apply Q4|refine Q8 ?_ J0.out|refine Q8 ?_ Ja.out|refine Q8 ?_ Ov.out|refine Q8 ?_ WB.out)|exact HB.out))⟩)
            skip
            refine XT ?hg (N:=16) ?hd (cs:=#[.int .i64 0,.int .i64 0,.int .i64 0,.int .i64 0,.int .i64 0,.int .i64 0]) (t:=115) ?hr ?_;(case hd=>rfl);(case hg=>rfl);(case hr=>first|(go_simp;done)|(go_simp;rfl));intro QQ hg w48 hbox hb;have n0_:=Q0.mk (Kd.R_below (by (with_reducible repeat (first|apply Kd.R_alloc|apply Kd.R_drewN|apply Kd.R_drew));exact HO_13.out) hb);have n1_:=Q0.mk (Qp (g:=J3) (by (with_reducible repeat (first|refine Q5 ?_ _|refine Q7 ?_|refine Q3 ?_ _));exact YY.out) hb);have n2_:=Q0.mk (Qp (g:=Z0) (by (with_reducible repeat (first|refine Q5 ?_ _|refine Q7 ?_|refine Q3 ?_ _));exact Y4.out) hb);have n3_:=Q0.mk (Qp (g:=Yy) (by (with_reducible repeat (first|refine Q5 ?_ _|refine Q7 ?_|refine Q3 ?_ _));exact YH.out) hb);have n4_:=Q0.mk (Qv (by repeat (first|(with_reducible first|exact HB.out|apply Q2|apply Q1|apply Q4|refine Q8 ?_ J0.out|refine Q8 ?_ Ja.out|refine Q8 ?_ Ov.out)|exact HB.out)) hb);have n5_:=Q0.mk (hbox);have n6_:=Q0.mk ((by rw [hg];exact (Qn (by repeat (first|(with_reducible first|exact HB.out|apply Q2|apply Q1|apply Q4|refine Q8 ?_ J0.out|refine Q8 ?_ Ja.out|refine Q8 ?_ Ov.out)|exact HB.out))):w.heap.size≤QQ));have n7_:=n6_;have n8_:=Q0.mk ((by rw [hg];exact Nat.ne_of_lt (QT (g:=J3) (by (with_reducible repeat (first|refine Q5 ?_ _|refine Q7 ?_|refine Q3 ?_ _));exact YY.out)):J3≠QQ));have n9_:=Q0.mk (n8_.out.symm);have n10_:=Q0.mk ((by rw [hg];exact Nat.ne_of_lt (QT (g:=Z0) (by (with_reducible repeat (first|refine Q5 ?_ _|refine Q7 ?_|refine Q3 ?_ _));exact Y4.out)):Z0≠QQ));have n11_:=Q0.mk (n10_.out.symm);have n12_:=Q0.mk ((by rw [hg];exact Nat.ne_of_lt (QT (g:=Yy) (by (with_reducible repeat (first|refine Q5 ?_ _|refine Q7 ?_|refine Q3 ?_ _));exact YH.out)):Yy≠QQ));have n13_:=Q0.mk (n12_.out.symm);clear HO_13 YY Y4 YH HB;have HO_13:=n0_;have YY:=n1_;have Y4:=n2_;have YH:=n3_;have HB:=n4_;have ZK:=n5_;have ZG:=n6_;have WB:=n7_;have Jl:=n8_;have Gt:=n9_;have Ys:=n10_;have Gu:=n11_;have Yb:=n12_;have Yi:=n13_;clear n0_ n1_ n2_ n3_ n4_ n5_ n6_ n7_ n8_ n9_ n10_ n11_ n12_ n13_ hb hbox hg;refine hK.out _ _ ⟨(Q9 Y4.out 0).trans rfl,(Q9 Y4.out 1).trans rfl,(Q9 Y4.out 2).trans rfl,(Q9 Y4.out 3).trans rfl,(Q9 Y4.out 4).trans rfl,(Q9 YH.out 0).trans rfl,(Q9 YH.out 1).trans rfl,(Q9 YH.out 2).trans rfl,(Q9 YH.out 3).trans rfl,(Q9 YH.out 4).trans rfl,(Q9 YH.out 5).trans rfl,((HB.out.cell (World.block_lt_of_cell? w _ Zv)).trans Zv),((HB.out.cell (World.block_lt_of_cell? w _ Zw)).trans Zw)⟩ (fun hHeld => ?_);clear hK K;refine G9 (a':=?_) ?_ ?_;rotate_left
            ·
             show Act.put _ (some 16) _=_
             simp only [Qf,Qb,Qe,Qd,Qc,Qk,Qm];rfl
            refine one_ (i:=11) (N:=some 75) (Qg 18 36863) rfl rfl (Gf HT_.out (by kernel_rfl)) (by decide) (fun K hK => ?_);refine qep Try.func77 (by kernel_rfl) rfl #[.agg #[.slice Ya Qi.length QP,.slice Y6 Qu.length QR,.slice Yc Ql.length QS,.int .i64 Yf,.int .i64 Ye],.agg #[.int .i64 Zz,.int .i64 Zq,.int .i64 Zn,.int .i64 Zi,.int .i64 Zf,.int .i64 Za],.int .i64 (rd l1 Jf),.int .i64 (rd l2 Jf)] 64 (by rfl) rfl rfl rfl (by (try simp only [List.map_toArray,List.map_cons,List.map_nil]);first|done|rfl|(simp only [List.length_drop,List.length_take];rfl)) ?_
            with_reducible refine (Zp.calls _ _ Qi _ _ Qu _ _ Ql Yf Ye Zz Zq Zn Zi Zf Za (rd l1 Jf) (rd l2 Jf) t171 KQ t173 OA t175 U5 Wh _ ?side1 ?side2 ?side3 ?side4 ?side5 ?side6 A45.out).mono ?_
            (case side1=>repeat (first|exact (Kd.C_below JI.out HB.out)|(with_reducible refine Kd.C_alloc ?_ _)|(with_reducible refine Kd.C_drewN ?_ _)|(with_reducible refine Kd.C_drew ?_)))
            (case side2=>exact G5.out)
            (case side3=>repeat (first|exact (Kd.C_below JU.out HB.out)|(with_reducible refine Kd.C_alloc ?_ _)|(with_reducible refine Kd.C_drewN ?_ _)|(with_reducible refine Kd.C_drew ?_)))
            (case side4=>exact G6.out)
            (case side5=>repeat (first|exact (Kd.C_below JV.out HB.out)|(with_reducible refine Kd.C_alloc ?_ _)|(with_reducible refine Kd.C_drewN ?_ _)|(with_reducible refine Kd.C_drew ?_)))
            (case side6=>exact G7.out)
            rintro e w49 ⟨rfl,hb⟩;refine ⟨_,rfl,?_⟩;have n0_:=Q0.mk (Kd.R_below (by (with_reducible repeat (first|apply Kd.R_alloc|apply Kd.R_drewN|apply Kd.R_drew));exact HO_13.out) hb);have n1_:=Q0.mk (Qp (g:=J3) (by (with_reducible repeat (first|refine Q5 ?_ _|refine Q7 ?_|refine Q3 ?_ _));exact YY.out) hb);have n2_:=Q0.mk (Qp (g:=Z0) (by (with_reducible repeat (first|refine Q5 ?_ _|refine Q7 ?_|refine Q3 ?_ _));exact Y4.out) hb);have n3_:=Q0.mk (Qp (g:=Yy) (by (with_reducible repeat (first|refine Q5 ?_ _|refine Q7 ?_|refine Q3 ?_ _));exact YH.out) hb);have n4_:=Q0.mk (Qp (g:=QQ) (by (with_reducible repeat (first|refine Q5 ?_ _|refine Q7 ?_|refine Q3 ?_ _));exact ZK.out) hb);have n5_:=Q0.mk (Qv (by repeat (first|(with_reducible first|exact HB.out|apply Q2|apply Q1|apply Q4|refine Q8 ?_ J0.out|refine Q8 ?_ Ja.out|refine Q8 ?_ Ov.out|refine Q8 ?_ WB.out)|exact HB.out)) hb);clear HO_13 YY Y4 YH ZK HB;have HO_13:=n0_;have YY:=n1_;have Y4:=n2_;have YH:=n3_;have ZK:=n4_;have HB:=n5_;clear n0_ n1_ n2_ n3_ n4_ n5_
            (try clear hb)
            (try clear hb2)
            (try clear hk)
            (try clear hi)
            refine hK.out _ _ ⟨(Q9 Y4.out 0).trans rfl,(Q9 Y4.out 1).trans rfl,(Q9 Y4.out 2).trans rfl,(Q9 Y4.out 3).trans rfl,(Q9 Y4.out 4).trans rfl,(Q9 YH.out 0).trans rfl,(Q9 YH.out 1).trans rfl,(Q9 YH.out 2).trans rfl,(Q9 YH.out 3).trans rfl,(Q9 YH.out 4).trans rfl,(Q9 YH.out 5).trans rfl,((HB.out.cell (World.block_lt_of_cell? w _ Zv)).trans Zv),((HB.out.cell (World.block_lt_of_cell? w _ Zw)).trans Zw)⟩ (fun hHeld => ?_);clear hK K;refine G9 (a':=?_) ?_ ?_;rotate_left
            ·
             show Act.put _ (some 75) _=_
             simp only [Qf,Qb,Qe,Qd,Qc,Qk,Qm];rfl
            refine Qh 12 (some 63) (Qg 18 40959) rfl rfl HT_.out (by kernel_rfl) (fun _ _ _ h=>h) ⟨.inl ⟨by rfl,fun w'=>by go_simp;with_reducible rfl⟩,by simp only [Qf,Qb,Qe,Qd,Qc,Qk,Qm];rfl,?_⟩;refine Qh 13 (some 76) (Qg 18 49151) rfl rfl HT_.out (by kernel_rfl) (fun _ _ _ h=>h) ⟨.inl ⟨by rfl,fun w'=>by go_simp;with_reducible rfl⟩,by simp only [Qf,Qb,Qe,Qd,Qc,Qk,Qm];rfl,?_⟩;refine Qh 14 (some 77) (Qg 18 65535) rfl rfl HT_.out (by kernel_rfl) (fun _ _ _ h=>h) ⟨.inl ⟨by rfl,fun w'=>by go_simp;with_reducible rfl⟩,by simp only [Qf,Qb,Qe,Qd,Qc,Qk,Qm];rfl,?_⟩
            exact G9 (by simp only [Wv,Act.put,List.setIfInBounds_toArray,List.set_cons_zero,List.set_cons_succ]) (hCont (QQ) _ ⟨hHeld,(by (with_reducible repeat (first|apply Kd.R_alloc|apply Kd.R_drewN|apply Kd.R_drew));exact HO_13.out),(by (with_reducible repeat (first|refine Q5 ?_ _|refine Q7 ?_|refine Q3 ?_ _));exact YY.out),(by (with_reducible repeat (first|refine Q5 ?_ _|refine Q7 ?_|refine Q3 ?_ _));exact Y4.out),(by (with_reducible repeat (first|refine Q5 ?_ _|refine Q7 ?_|refine Q3 ?_ _));exact YH.out),(by (with_reducible repeat (first|refine Q5 ?_ _|refine Q7 ?_|refine Q3 ?_ _));exact ZK.out),ZG.out,WB.out,Jl.out,Gt.out,Ys.out,Gu.out,Yb.out,Yi.out,(by repeat (first|(with_reducible first|exact HB.out|apply Q2|apply Q1|apply Q4|refine Q8 ?_ J0.out|refine Q8 ?_ Ja.out|refine Q8 ?_ Ov.out|refine Q8 ?_ WB.out)|exact HB.out))⟩)
           rintro QQ w50 ⟨hS_,h0_,h1_,h2_,h3_,h4_,h5_,h6_,h7_,h8_,h9_,h10_,h11_,h12_,h13_⟩;have n0_:Q0 (Kd.R (Kd.int .i64) 3 w50 w.heap.size (fun k_=>(w.heap.size≤k_)) u13 Gr):=⟨h0_⟩;have n1_:Q0 (w50.heap[J3]? = some (.cells #[.slice Ya Qi.length QP,.slice Y6 Qu.length QR,.slice Yc Ql.length QS,.int .i64 Yf,.int .i64 Ye] 39 (0,0))):=⟨h1_⟩;have n2_:Q0 (w50.heap[Z0]? = some (.cells #[.slice Ya Qi.length QP,.slice Y6 Qu.length QR,.slice Yc Ql.length QS,.int .i64 Yf,.int .i64 Ye] 111 (0,0))):=⟨h2_⟩;have n3_:Q0 (w50.heap[Yy]? = some (.cells #[.int .i64 Zz,.int .i64 Zq,.int .i64 Zn,.int .i64 Zi,.int .i64 Zf,.int .i64 Za] 115 (0,0))):=⟨h3_⟩;have n4_:Q0 (w50.heap[QQ]? = some (.cells #[.int .i64 0,.int .i64 0,.int .i64 0,.int .i64 0,.int .i64 0,.int .i64 0] 115 (0,0))):=⟨h4_⟩;have n5_:Q0 (w.heap.size≤QQ):=⟨h5_⟩;have n6_:Q0 (w.heap.size≤QQ):=⟨h6_⟩;have n7_:Q0 (J3≠QQ):=⟨h7_⟩;have n8_:Q0 (QQ≠J3):=⟨h8_⟩;have n9_:Q0 (Z0≠QQ):=⟨h9_⟩;have n10_:Q0 (QQ≠Z0):=⟨h10_⟩;have n11_:Q0 (Yy≠QQ):=⟨h11_⟩;have n12_:Q0 (QQ≠Yy):=⟨h12_⟩;have n13_:Q0 (Below w.heap.size w w50):=⟨h13_⟩;clear HO_13 YY Y4 YH HB h0_ h1_ h2_ h3_ h4_ h5_ h6_ h7_ h8_ h9_ h10_ h11_ h12_ h13_;have HO_13:=n0_;have YY:=n1_;have Y4:=n2_;have YH:=n3_;have ZK:=n4_;have ZG:=n5_;have WB:=n6_;have Jl:=n7_;have Gt:=n8_;have Ys:=n9_;have Gu:=n10_;have Yb:=n11_;have Yi:=n12_;have HB:=n13_;clear n0_ n1_ n2_ n3_ n4_ n5_ n6_ n7_ n8_ n9_ n10_ n11_ n12_ n13_;have hHeld:w50.cell? ⟨Z0,0,none⟩=some (.slice Ya Qi.length QP)∧w50.cell? ⟨Z0,1,none⟩=some (.slice Y6 Qu.length QR)∧w50.cell? ⟨Z0,2,none⟩=some (.slice Yc Ql.length QS)∧w50.cell? ⟨Z0,3,none⟩=some (.int .i64 Yf)∧w50.cell? ⟨Z0,4,none⟩=some (.int .i64 Ye)∧w50.cell? ⟨Yy,0,none⟩=some (.int .i64 Zz)∧w50.cell? ⟨Yy,1,none⟩=some (.int .i64 Zq)∧w50.cell? ⟨Yy,2,none⟩=some (.int .i64 Zn)∧w50.cell? ⟨Yy,3,none⟩=some (.int .i64 Zi)∧w50.cell? ⟨Yy,4,none⟩=some (.int .i64 Zf)∧w50.cell? ⟨Yy,5,none⟩=some (.int .i64 Za)∧w50.cell? (qlh.add (Jf).toNat)=some (.int .i64 (rd l1 Jf))∧w50.cell? (qli.add (Jf).toNat)=some (.int .i64 (rd l2 Jf)):=hS_;refine G9 (a':=?_) ?_ ?_;rotate_left
           · simp only [Wv,Act.put,List.setIfInBounds_toArray,List.set_cons_zero,List.set_cons_succ];rfl
           refine Qh 16 (some 15) (Qg 18 131071) rfl rfl HT_.out (by kernel_rfl) (fun _ _ _ h=>h) ⟨.inl ⟨by rfl,fun w'=>by go_simp;with_reducible rfl⟩,by simp only [Qf,Qb,Qe,Qd,Qc,Qk,Qm];rfl,?_⟩;refine one_ (i:=17) (N:=none) (Qg 18 262143) rfl rfl (Gf HT_.out (by kernel_rfl)) (by decide) (fun K hK => ?_);have qGz:w50.cell? ⟨QQ,0,none⟩=some (.int .i64 0):=(Q9 ZK.out 0).trans rfl;have qDX:=Qa ZK.out 0;have qAh:=Jl.out;have qAi:=Ys.out;have qAj:=Yb.out;have qzv:=Gt.out;have qzw:=Gu.out;have qzx:=Yi.out;have qGA:w50.cell? ⟨QQ,1,none⟩=some (.int .i64 0):=(Q9 ZK.out 1).trans rfl;have qDY:=Qa ZK.out 1;have qAk:=Jl.out;have qAl:=Ys.out;have qAm:=Yb.out;have qzy:=Gt.out;have qzz:=Gu.out;have qzA:=Yi.out;have qGB:w50.cell? ⟨QQ,2,none⟩=some (.int .i64 0):=(Q9 ZK.out 2).trans rfl;have qDZ:=Qa ZK.out 2;have qAn:=Jl.out;have qAo:=Ys.out;have qAp:=Yb.out;have qzB:=Gt.out;have qzC:=Gu.out;have qzD:=Yi.out;have qGC:w50.cell? ⟨QQ,3,none⟩=some (.int .i64 0):=(Q9 ZK.out 3).trans rfl;have qD0:=Qa ZK.out 3;have qAq:=Jl.out;have qAr:=Ys.out;have qAs:=Yb.out;have qzE:=Gt.out;have qzF:=Gu.out;have qzG:=Yi.out;have qGD:w50.cell? ⟨QQ,4,none⟩=some (.int .i64 0):=(Q9 ZK.out 4).trans rfl;have qD1:=Qa ZK.out 4;have qAt:=Jl.out;have qAu:=Ys.out;have qAv:=Yb.out;have qzH:=Gt.out;have qzI:=Gu.out;have qzJ:=Yi.out;have qGE:w50.cell? ⟨QQ,5,none⟩=some (.int .i64 0):=(Q9 ZK.out 5).trans rfl;have qD2:=Qa ZK.out 5;have qAw:=Jl.out;have qAx:=Ys.out;have qAy:=Yb.out;have qzK:=Gt.out;have qzL:=Gu.out;have qzM:=Yi.out;refine qgK (w1:=?_) (by rfl) rfl ?_ ?_;rotate_left
           ·
            go_simp;rfl
           refine hK.out _ _ ⟨((Qw (p:=⟨QQ,_,none⟩) Ys.out _).trans (((Qw (p:=⟨QQ,_,none⟩) Ys.out _).trans (((Qw (p:=⟨QQ,_,none⟩) Ys.out _).trans (((Qw (p:=⟨QQ,_,none⟩) Ys.out _).trans (((Qw (p:=⟨QQ,_,none⟩) Ys.out _).trans (((Qw (p:=⟨QQ,_,none⟩) Ys.out _).trans (hHeld.1)))))))))))),((Qw (p:=⟨QQ,_,none⟩) Ys.out _).trans (((Qw (p:=⟨QQ,_,none⟩) Ys.out _).trans (((Qw (p:=⟨QQ,_,none⟩) Ys.out _).trans (((Qw (p:=⟨QQ,_,none⟩) Ys.out _).trans (((Qw (p:=⟨QQ,_,none⟩) Ys.out _).trans (((Qw (p:=⟨QQ,_,none⟩) Ys.out _).trans (hHeld.2.1)))))))))))),((Qw (p:=⟨QQ,_,none⟩) Ys.out _).trans (((Qw (p:=⟨QQ,_,none⟩) Ys.out _).trans (((Qw (p:=⟨QQ,_,none⟩) Ys.out _).trans (((Qw (p:=⟨QQ,_,none⟩) Ys.out _).trans (((Qw (p:=⟨QQ,_,none⟩) Ys.out _).trans (((Qw (p:=⟨QQ,_,none⟩) Ys.out _).trans (hHeld.2.2.1)))))))))))),((Qw (p:=⟨QQ,_,none⟩) Ys.out _).trans (((Qw (p:=⟨QQ,_,none⟩) Ys.out _).trans (((Qw (p:=⟨QQ,_,none⟩) Ys.out _).trans (((Qw (p:=⟨QQ,_,none⟩) Ys.out _).trans (((Qw (p:=⟨QQ,_,none⟩) Ys.out _).trans (((Qw (p:=⟨QQ,_,none⟩) Ys.out _).trans (hHeld.2.2.2.1)))))))))))),((Qw (p:=⟨QQ,_,none⟩) Ys.out _).trans (((Qw (p:=⟨QQ,_,none⟩) Ys.out _).trans (((Qw (p:=⟨QQ,_,none⟩) Ys.out _).trans (((Qw (p:=⟨QQ,_,none⟩) Ys.out _).trans (((Qw (p:=⟨QQ,_,none⟩) Ys.out _).trans (((Qw (p:=⟨QQ,_,none⟩) Ys.out _).trans (hHeld.2.2.2.2.1)))))))))))),((Qw (p:=⟨QQ,_,none⟩) Yb.out _).trans (((Qw (p:=⟨QQ,_,none⟩) Yb.out _).trans (((Qw (p:=⟨QQ,_,none⟩) Yb.out _).trans (((Qw (p:=⟨QQ,_,none⟩) Yb.out _).trans (((Qw (p:=⟨QQ,_,none⟩) Yb.out _).trans (((Qw (p:=⟨QQ,_,none⟩) Yb.out _).trans (hHeld.2.2.2.2.2.1)))))))))))),((Qw (p:=⟨QQ,_,none⟩) Yb.out _).trans (((Qw (p:=⟨QQ,_,none⟩) Yb.out _).trans (((Qw (p:=⟨QQ,_,none⟩) Yb.out _).trans (((Qw (p:=⟨QQ,_,none⟩) Yb.out _).trans (((Qw (p:=⟨QQ,_,none⟩) Yb.out _).trans (((Qw (p:=⟨QQ,_,none⟩) Yb.out _).trans (hHeld.2.2.2.2.2.2.1)))))))))))),((Qw (p:=⟨QQ,_,none⟩) Yb.out _).trans (((Qw (p:=⟨QQ,_,none⟩) Yb.out _).trans (((Qw (p:=⟨QQ,_,none⟩) Yb.out _).trans (((Qw (p:=⟨QQ,_,none⟩) Yb.out _).trans (((Qw (p:=⟨QQ,_,none⟩) Yb.out _).trans (((Qw (p:=⟨QQ,_,none⟩) Yb.out _).trans (hHeld.2.2.2.2.2.2.2.1)))))))))))),((Qw (p:=⟨QQ,_,none⟩) Yb.out _).trans (((Qw (p:=⟨QQ,_,none⟩) Yb.out _).trans (((Qw (p:=⟨QQ,_,none⟩) Yb.out _).trans (((Qw (p:=⟨QQ,_,none⟩) Yb.out _).trans (((Qw (p:=⟨QQ,_,none⟩) Yb.out _).trans (((Qw (p:=⟨QQ,_,none⟩) Yb.out _).trans (hHeld.2.2.2.2.2.2.2.2.1)))))))))))),((Qw (p:=⟨QQ,_,none⟩) Yb.out _).trans (((Qw (p:=⟨QQ,_,none⟩) Yb.out _).trans (((Qw (p:=⟨QQ,_,none⟩) Yb.out _).trans (((Qw (p:=⟨QQ,_,none⟩) Yb.out _).trans (((Qw (p:=⟨QQ,_,none⟩) Yb.out _).trans (((Qw (p:=⟨QQ,_,none⟩) Yb.out _).trans (hHeld.2.2.2.2.2.2.2.2.2.1)))))))))))),((Qw (p:=⟨QQ,_,none⟩) Yb.out _).trans (((Qw (p:=⟨QQ,_,none⟩) Yb.out _).trans (((Qw (p:=⟨QQ,_,none⟩) Yb.out _).trans (((Qw (p:=⟨QQ,_,none⟩) Yb.out _).trans (((Qw (p:=⟨QQ,_,none⟩) Yb.out _).trans (((Qw (p:=⟨QQ,_,none⟩) Yb.out _).trans (hHeld.2.2.2.2.2.2.2.2.2.2.1)))))))))))),((Qw (p:=⟨QQ,_,none⟩) (by first|exact Nat.ne_of_lt (Nat.lt_of_lt_of_le (by have:=World.block_lt_of_cell? _ _ Zv;first|rwa [Qs] at this|exact this) ZG.out)|(rw [Qs];exact Nat.ne_of_lt (Nat.lt_of_lt_of_le (by have:=World.block_lt_of_cell? _ _ Zv;first|rwa [Qs] at this|exact this) ZG.out))|(show (Addr.add _ _).block≠_;rw [Qs];exact Nat.ne_of_lt (Nat.lt_of_lt_of_le (by have:=World.block_lt_of_cell? _ _ Zv;first|rwa [Qs] at this|exact this) ZG.out))|(dsimp only;exact Nat.ne_of_lt (Nat.lt_of_lt_of_le (by have:=World.block_lt_of_cell? _ _ Zv;first|rwa [Qs] at this|exact this) ZG.out))) _).trans (((Qw (p:=⟨QQ,_,none⟩) (by first|exact Nat.ne_of_lt (Nat.lt_of_lt_of_le (by have:=World.block_lt_of_cell? _ _ Zv;first|rwa [Qs] at this|exact this) ZG.out)|(rw [Qs];exact Nat.ne_of_lt (Nat.lt_of_lt_of_le (by have:=World.block_lt_of_cell? _ _ Zv;first|rwa [Qs] at this|exact this) ZG.out))|(show (Addr.add _ _).block≠_;rw [Qs];exact Nat.ne_of_lt (Nat.lt_of_lt_of_le (by have:=World.block_lt_of_cell? _ _ Zv;first|rwa [Qs] at this|exact this) ZG.out))|(dsimp only;exact Nat.ne_of_lt (Nat.lt_of_lt_of_le (by have:=World.block_lt_of_cell? _ _ Zv;first|rwa [Qs] at this|exact this) ZG.out))) _).trans (((Qw (p:=⟨QQ,_,none⟩) (by first|exact Nat.ne_of_lt (Nat.lt_of_lt_of_le (by have:=World.block_lt_of_cell? _ _ Zv;first|rwa [Qs] at this|exact this) ZG.out)|(rw [Qs];exact Nat.ne_of_lt (Nat.lt_of_lt_of_le (by have:=World.block_lt_of_cell? _ _ Zv;first|rwa [Qs] at this|exact this) ZG.out))|(show (Addr.add _ _).block≠_;rw [Qs];exact Nat.ne_of_lt (Nat.lt_of_lt_of_le (by have:=World.block_lt_of_cell? _ _ Zv;first|rwa [Qs] at this|exact this) ZG.out))|(dsimp only;exact Nat.ne_of_lt (Nat.lt_of_lt_of_le (by have:=World.block_lt_of_cell? _ _ Zv;first|rwa [Qs] at this|exact this) ZG.out))) _).trans (((Qw (p:=⟨QQ,_,none⟩) (by first|exact Nat.ne_of_lt (Nat.lt_of_lt_of_le (by have:=World.block_lt_of_cell? _ _ Zv;first|rwa [Qs] at this|exact this) ZG.out)|(rw [Qs];exact Nat.ne_of_lt (Nat.lt_of_lt_of_le (by have:=World.block_lt_of_cell? _ _ Zv;first|rwa [Qs] at this|exact this) ZG.out))|(show (Addr.add _ _).block≠_;rw [Qs];exact Nat.ne_of_lt (Nat.lt_of_lt_of_le (by have:=World.block_lt_of_cell? _ _ Zv;first|rwa [Qs] at this|exact this) ZG.out))|(dsimp only;exact Nat.ne_of_lt (Nat.lt_of_lt_of_le (by have:=World.block_lt_of_cell? _ _ Zv;first|rwa [Qs] at this|exact this) ZG.out))) _).trans (((Qw (p:=⟨QQ,_,none⟩) (by first|exact Nat.ne_of_lt (Nat.lt_of_lt_of_le (by have:=World.block_lt_of_cell? _ _ Zv;first|rwa [Qs] at this|exact this) ZG.out)|(rw [Qs];exact Nat.ne_of_lt (Nat.lt_of_lt_of_le (by have:=World.block_lt_of_cell? _ _ Zv;first|rwa [Qs] at this|exact this) ZG.out))|(show (Addr.add _ _).block≠_;rw [Qs];exact Nat.ne_of_lt (Nat.lt_of_lt_of_le (by have:=World.block_lt_of_cell? _ _ Zv;first|rwa [Qs] at this|exact this) ZG.out))|(dsimp only;exact Nat.ne_of_lt (Nat.lt_of_lt_of_le (by have:=World.block_lt_of_cell? _ _ Zv;first|rwa [Qs] at this|exact this) ZG.out))) _).trans (((Qw (p:=⟨QQ,_,none⟩) (by first|exact Nat.ne_of_lt (Nat.lt_of_lt_of_le (by have:=World.block_lt_of_cell? _ _ Zv;first|rwa [Qs] at this|exact this) ZG.out)|(rw [Qs];exact Nat.ne_of_lt (Nat.lt_of_lt_of_le (by have:=World.block_lt_of_cell? _ _ Zv;first|rwa [Qs] at this|exact this) ZG.out))|(show (Addr.add _ _).block≠_;rw [Qs];exact Nat.ne_of_lt (Nat.lt_of_lt_of_le (by have:=World.block_lt_of_cell? _ _ Zv;first|rwa [Qs] at this|exact this) ZG.out))|(dsimp only;exact Nat.ne_of_lt (Nat.lt_of_lt_of_le (by have:=World.block_lt_of_cell? _ _ Zv;first|rwa [Qs] at this|exact this) ZG.out))) _).trans (hHeld.2.2.2.2.2.2.2.2.2.2.2.1)))))))))))),((Qw (p:=⟨QQ,_,none⟩) (by first|exact Nat.ne_of_lt (Nat.lt_of_lt_of_le (by have:=World.block_lt_of_cell? _ _ Zw;first|rwa [Qs] at this|exact this) ZG.out)|(rw [Qs];exact Nat.ne_of_lt (Nat.lt_of_lt_of_le (by have:=World.block_lt_of_cell? _ _ Zw;first|rwa [Qs] at this|exact this) ZG.out))|(show (Addr.add _ _).block≠_;rw [Qs];exact Nat.ne_of_lt (Nat.lt_of_lt_of_le (by have:=World.block_lt_of_cell? _ _ Zw;first|rwa [Qs] at this|exact this) ZG.out))|(dsimp only;exact Nat.ne_of_lt (Nat.lt_of_lt_of_le (by have:=World.block_lt_of_cell? _ _ Zw;first|rwa [Qs] at this|exact this) ZG.out))) _).trans (((Qw (p:=⟨QQ,_,none⟩) (by first|exact Nat.ne_of_lt (Nat.lt_of_lt_of_le (by have:=World.block_lt_of_cell? _ _ Zw;first|rwa [Qs] at this|exact this) ZG.out)|(rw [Qs];exact Nat.ne_of_lt (Nat.lt_of_lt_of_le (by have:=World.block_lt_of_cell? _ _ Zw;first|rwa [Qs] at this|exact this) ZG.out))|(show (Addr.add _ _).block≠_;rw [Qs];exact Nat.ne_of_lt (Nat.lt_of_lt_of_le (by have:=World.block_lt_of_cell? _ _ Zw;first|rwa [Qs] at this|exact this) ZG.out))|(dsimp only;exact Nat.ne_of_lt (Nat.lt_of_lt_of_le (by have:=World.block_lt_of_cell? _ _ Zw;first|rwa [Qs] at this|exact this) ZG.out))) _).trans (((Qw (p:=⟨QQ,_,none⟩) (by first|exact Nat.ne_of_lt (Nat.lt_of_lt_of_le (by have:=World.block_lt_of_cell? _ _ Zw;first|rwa [Qs] at this|exact this) ZG.out)|(rw [Qs];exact Nat.ne_of_lt (Nat.lt_of_lt_of_le (by have:=World.block_lt_of_cell? _ _ Zw;first|rwa [Qs] at this|exact this) ZG.out))|(show (Addr.add _ _).block≠_;rw [Qs];exact Nat.ne_of_lt (Nat.lt_of_lt_of_le (by have:=World.block_lt_of_cell? _ _ Zw;first|rwa [Qs] at this|exact this) ZG.out))|(dsimp only;exact Nat.ne_of_lt (Nat.lt_of_lt_of_le (by have:=World.block_lt_of_cell? _ _ Zw;first|rwa [Qs] at this|exact this) ZG.out))) _).trans (((Qw (p:=⟨QQ,_,none⟩) (by first|exact Nat.ne_of_lt (Nat.lt_of_lt_of_le (by have:=World.block_lt_of_cell? _ _ Zw;first|rwa [Qs] at this|exact this) ZG.out)|(rw [Qs];exact Nat.ne_of_lt (Nat.lt_of_lt_of_le (by have:=World.block_lt_of_cell? _ _ Zw;first|rwa [Qs] at this|exact this) ZG.out))|(show (Addr.add _ _).block≠_;rw [Qs];exact Nat.ne_of_lt (Nat.lt_of_lt_of_le (by have:=World.block_lt_of_cell? _ _ Zw;first|rwa [Qs] at this|exact this) ZG.out))|(dsimp only;exact Nat.ne_of_lt (Nat.lt_of_lt_of_le (by have:=World.block_lt_of_cell? _ _ Zw;first|rwa [Qs] at this|exact this) ZG.out))) _).trans (((Qw (p:=⟨QQ,_,none⟩) (by first|exact Nat.ne_of_lt (Nat.lt_of_lt_of_le (by have:=World.block_lt_of_cell? _ _ Zw;first|rwa [Qs] at this|exact this) ZG.out)|(rw [Qs];exact Nat.ne_of_lt (Nat.lt_of_lt_of_le (by have:=World.block_lt_of_cell? _ _ Zw;first|rwa [Qs] at this|exact this) ZG.out))|(show (Addr.add _ _).block≠_;rw [Qs];exact Nat.ne_of_lt (Nat.lt_of_lt_of_le (by have:=World.block_lt_of_cell? _ _ Zw;first|rwa [Qs] at this|exact this) ZG.out))|(dsimp only;exact Nat.ne_of_lt (Nat.lt_of_lt_of_le (by have:=World.block_lt_of_cell? _ _ Zw;first|rwa [Qs] at this|exact this) ZG.out))) _).trans (((Qw (p:=⟨QQ,_,none⟩) (by first|exact Nat.ne_of_lt (Nat.lt_of_lt_of_le (by have:=World.block_lt_of_cell? _ _ Zw;first|rwa [Qs] at this|exact this) ZG.out)|(rw [Qs];exact Nat.ne_of_lt (Nat.lt_of_lt_of_le (by have:=World.block_lt_of_cell? _ _ Zw;first|rwa [Qs] at this|exact this) ZG.out))|(show (Addr.add _ _).block≠_;rw [Qs];exact Nat.ne_of_lt (Nat.lt_of_lt_of_le (by have:=World.block_lt_of_cell? _ _ Zw;first|rwa [Qs] at this|exact this) ZG.out))|(dsimp only;exact Nat.ne_of_lt (Nat.lt_of_lt_of_le (by have:=World.block_lt_of_cell? _ _ Zw;first|rwa [Qs] at this|exact this) ZG.out))) _).trans (hHeld.2.2.2.2.2.2.2.2.2.2.2.2))))))))))))⟩ (fun hHeld => ?_);clear hK K;refine Oz (Ga HT_.out (by kernel_rfl)) ?_
           try go_wp2
           have n0_:Q0 (Kd.R (Kd.int .i64) 3 ((((((w50.setCell ⟨QQ,0,none⟩ (.int .i64 KQ)).setCell ⟨QQ,1,none⟩ (.int .i64 t173)).setCell ⟨QQ,2,none⟩ (.int .i64 OA)).setCell ⟨QQ,3,none⟩ (.int .i64 t175)).setCell ⟨QQ,4,none⟩ (.int .i64 U5)).setCell ⟨QQ,5,none⟩ (.int .i64 Wh)) w.heap.size (fun k_=>(w.heap.size≤k_)) u13 Gr):=⟨by (with_reducible repeat (first|apply Kd.R_alloc|apply Kd.R_drewN|apply Kd.R_drew));exact Kd.R_mono (Kd.R_far (p:=⟨QQ,5,none⟩) (Kd.R_far (p:=⟨QQ,4,none⟩) (Kd.R_far (p:=⟨QQ,3,none⟩) (Kd.R_far (p:=⟨QQ,2,none⟩) (Kd.R_far (p:=⟨QQ,1,none⟩) (Kd.R_far (p:=⟨QQ,0,none⟩) (Kd.R_types HO_13.out ZK.out (by decide)) (fun _ hk=>hk.2) (.int .i64 KQ)) (fun _ hk=>hk.2) (.int .i64 t173)) (fun _ hk=>hk.2) (.int .i64 OA)) (fun _ hk=>hk.2) (.int .i64 t175)) (fun _ hk=>hk.2) (.int .i64 U5)) (fun _ hk=>hk.2) (.int .i64 Wh)) (fun _ hk=>hk.1)⟩;have n1_:Q0 (((((((w50.setCell ⟨QQ,0,none⟩ (.int .i64 KQ)).setCell ⟨QQ,1,none⟩ (.int .i64 t173)).setCell ⟨QQ,2,none⟩ (.int .i64 OA)).setCell ⟨QQ,3,none⟩ (.int .i64 t175)).setCell ⟨QQ,4,none⟩ (.int .i64 U5)).setCell ⟨QQ,5,none⟩ (.int .i64 Wh)).heap[J3]? = some (.cells #[.slice Ya Qi.length QP,.slice Y6 Qu.length QR,.slice Yc Ql.length QS,.int .i64 Yf,.int .i64 Ye] 39 (0,0))):=⟨by (with_reducible repeat (first|refine Q5 ?_ _|refine Q7 ?_|refine Q3 ?_ _));refine Qx ?_ Jl.out _;(with_reducible repeat (first|refine Q5 ?_ _|refine Q7 ?_|refine Q3 ?_ _));refine Qx ?_ Jl.out _;(with_reducible repeat (first|refine Q5 ?_ _|refine Q7 ?_|refine Q3 ?_ _));refine Qx ?_ Jl.out _;(with_reducible repeat (first|refine Q5 ?_ _|refine Q7 ?_|refine Q3 ?_ _));refine Qx ?_ Jl.out _;(with_reducible repeat (first|refine Q5 ?_ _|refine Q7 ?_|refine Q3 ?_ _));refine Qx ?_ Jl.out _;(with_reducible repeat (first|refine Q5 ?_ _|refine Q7 ?_|refine Q3 ?_ _));refine Qx ?_ Jl.out _;(with_reducible repeat (first|refine Q5 ?_ _|refine Q7 ?_|refine Q3 ?_ _));exact YY.out⟩;have n2_:Q0 (((((((w50.setCell ⟨QQ,0,none⟩ (.int .i64 KQ)).setCell ⟨QQ,1,none⟩ (.int .i64 t173)).setCell ⟨QQ,2,none⟩ (.int .i64 OA)).setCell ⟨QQ,3,none⟩ (.int .i64 t175)).setCell ⟨QQ,4,none⟩ (.int .i64 U5)).setCell ⟨QQ,5,none⟩ (.int .i64 Wh)).heap[Z0]? = some (.cells #[.slice Ya Qi.length QP,.slice Y6 Qu.length QR,.slice Yc Ql.length QS,.int .i64 Yf,.int .i64 Ye] 111 (0,0))):=⟨by (with_reducible repeat (first|refine Q5 ?_ _|refine Q7 ?_|refine Q3 ?_ _));refine Qx ?_ Ys.out _;(with_reducible repeat (first|refine Q5 ?_ _|refine Q7 ?_|refine Q3 ?_ _));refine Qx ?_ Ys.out _;(with_reducible repeat (first|refine Q5 ?_ _|refine Q7 ?_|refine Q3 ?_ _));refine Qx ?_ Ys.out _;(with_reducible repeat (first|refine Q5 ?_ _|refine Q7 ?_|refine Q3 ?_ _));refine Qx ?_ Ys.out _;(with_reducible repeat (first|refine Q5 ?_ _|refine Q7 ?_|refine Q3 ?_ _));refine Qx ?_ Ys.out _;(with_reducible repeat (first|refine Q5 ?_ _|refine Q7 ?_|refine Q3 ?_ _));refine Qx ?_ Ys.out _;(with_reducible repeat (first|refine Q5 ?_ _|refine Q7 ?_|refine Q3 ?_ _));exact Y4.out⟩;have n3_:Q0 (((((((w50.setCell ⟨QQ,0,none⟩ (.int .i64 KQ)).setCell ⟨QQ,1,none⟩ (.int .i64 t173)).setCell ⟨QQ,2,none⟩ (.int .i64 OA)).setCell ⟨QQ,3,none⟩ (.int .i64 t175)).setCell ⟨QQ,4,none⟩ (.int .i64 U5)).setCell ⟨QQ,5,none⟩ (.int .i64 Wh)).heap[Yy]? = some (.cells #[.int .i64 Zz,.int .i64 Zq,.int .i64 Zn,.int .i64 Zi,.int .i64 Zf,.int .i64 Za] 115 (0,0))):=⟨by (with_reducible repeat (first|refine Q5 ?_ _|refine Q7 ?_|refine Q3 ?_ _));refine Qx ?_ Yb.out _;(with_reducible repeat (first|refine Q5 ?_ _|refine Q7 ?_|refine Q3 ?_ _));refine Qx ?_ Yb.out _;(with_reducible repeat (first|refine Q5 ?_ _|refine Q7 ?_|refine Q3 ?_ _));refine Qx ?_ Yb.out _;(with_reducible repeat (first|refine Q5 ?_ _|refine Q7 ?_|refine Q3 ?_ _));refine Qx ?_ Yb.out _;(with_reducible repeat (first|refine Q5 ?_ _|refine Q7 ?_|refine Q3 ?_ _));refine Qx ?_ Yb.out _;(with_reducible repeat (first|refine Q5 ?_ _|refine Q7 ?_|refine Q3 ?_ _));refine Qx ?_ Yb.out _;(with_reducible repeat (first|refine Q5 ?_ _|refine Q7 ?_|refine Q3 ?_ _));exact YH.out⟩;have n4_:Q0 (((((((w50.setCell ⟨QQ,0,none⟩ (.int .i64 KQ)).setCell ⟨QQ,1,none⟩ (.int .i64 t173)).setCell ⟨QQ,2,none⟩ (.int .i64 OA)).setCell ⟨QQ,3,none⟩ (.int .i64 t175)).setCell ⟨QQ,4,none⟩ (.int .i64 U5)).setCell ⟨QQ,5,none⟩ (.int .i64 Wh)).heap[QQ]? = some (.cells #[.int .i64 KQ,.int .i64 t173,.int .i64 OA,.int .i64 t175,.int .i64 U5,.int .i64 Wh] 115 (0,0))):=⟨by (with_reducible repeat (first|refine Q5 ?_ _|refine Q7 ?_|refine Q3 ?_ _));refine QG (cs:=#[.int .i64 KQ,.int .i64 t173,.int .i64 OA,.int .i64 t175,.int .i64 U5,.int .i64 0]) ?_ 5 _ rfl;(with_reducible repeat (first|refine Q5 ?_ _|refine Q7 ?_|refine Q3 ?_ _));refine QG (cs:=#[.int .i64 KQ,.int .i64 t173,.int .i64 OA,.int .i64 t175,.int .i64 0,.int .i64 0]) ?_ 4 _ rfl;(with_reducible repeat (first|refine Q5 ?_ _|refine Q7 ?_|refine Q3 ?_ _));refine QG (cs:=#[.int .i64 KQ,.int .i64 t173,.int .i64 OA,.int .i64 0,.int .i64 0,.int .i64 0]) ?_ 3 _ rfl;(with_reducible repeat (first|refine Q5 ?_ _|refine Q7 ?_|refine Q3 ?_ _));refine QG (cs:=#[.int .i64 KQ,.int .i64 t173,.int .i64 0,.int .i64 0,.int .i64 0,.int .i64 0]) ?_ 2 _ rfl;(with_reducible repeat (first|refine Q5 ?_ _|refine Q7 ?_|refine Q3 ?_ _));refine QG (cs:=#[.int .i64 KQ,.int .i64 0,.int .i64 0,.int .i64 0,.int .i64 0,.int .i64 0]) ?_ 1 _ rfl;(with_reducible repeat (first|refine Q5 ?_ _|refine Q7 ?_|refine Q3 ?_ _));refine QG (cs:=#[.int .i64 0,.int .i64 0,.int .i64 0,.int .i64 0,.int .i64 0,.int .i64 0]) ?_ 0 _ rfl;(with_reducible repeat (first|refine Q5 ?_ _|refine Q7 ?_|refine Q3 ?_ _));exact ZK.out⟩;have n5_:Q0 (Below w.heap.size w ((((((w50.setCell ⟨QQ,0,none⟩ (.int .i64 KQ)).setCell ⟨QQ,1,none⟩ (.int .i64 t173)).setCell ⟨QQ,2,none⟩ (.int .i64 OA)).setCell ⟨QQ,3,none⟩ (.int .i64 t175)).setCell ⟨QQ,4,none⟩ (.int .i64 U5)).setCell ⟨QQ,5,none⟩ (.int .i64 Wh))):=⟨by repeat (first|(with_reducible first|exact HB.out|apply Q2|apply Q1|apply Q4|refine Q8 ?_ J0.out|refine Q8 ?_ Ja.out|refine Q8 ?_ Ov.out|refine Q8 ?_ WB.out)|exact HB.out)⟩
           (try clear HO_13)
           (try clear YY)
           (try clear Y4)
           (try clear YH)
           (try clear ZK)
           (try clear HB)
           generalize ((((((w50.setCell ⟨QQ,0,none⟩ (.int .i64 KQ)).setCell ⟨QQ,1,none⟩ (.int .i64 t173)).setCell ⟨QQ,2,none⟩ (.int .i64 OA)).setCell ⟨QQ,3,none⟩ (.int .i64 t175)).setCell ⟨QQ,4,none⟩ (.int .i64 U5)).setCell ⟨QQ,5,none⟩ (.int .i64 Wh))=w57 at n0_ n1_ n2_ n3_ n4_ n5_ ⊢
           have HO_13:=n0_;have YY:=n1_;have Y4:=n2_;have YH:=n3_;have ZK:=n4_;have HB:=n5_;clear n0_ n1_ n2_ n3_ n4_ n5_;have n0_:=Q0.mk (Kd.R_drew HO_13.out);have n1_:=Q0.mk (Q7 YY.out);have n2_:=Q0.mk (Q7 Y4.out);have n3_:=Q0.mk (Q7 YH.out);have n4_:=Q0.mk (Q7 ZK.out);have n5_:=Q0.mk (Q4 HB.out);clear HO_13 YY Y4 YH ZK HB;have HO_13:=n0_;have YY:=n1_;have Y4:=n2_;have YH:=n3_;have ZK:=n4_;have HB:=n5_;clear n0_ n1_ n2_ n3_ n4_ n5_;refine GU (n:=7) (S:=fun w'=>w'.cell? ⟨QQ,0,none⟩=some (.int .i64 KQ)∧w'.cell? ⟨QQ,1,none⟩=some (.int .i64 t173)∧w'.cell? ⟨QQ,2,none⟩=some (.int .i64 OA)∧w'.cell? ⟨QQ,3,none⟩=some (.int .i64 t175)∧w'.cell? ⟨QQ,4,none⟩=some (.int .i64 U5)∧w'.cell? ⟨QQ,5,none⟩=some (.int .i64 Wh)) (ds:=[]) (Qg 7 0) (by kernel_rfl) rfl rfl ⟨(Q9 ZK.out 0).trans rfl,(Q9 ZK.out 1).trans rfl,(Q9 ZK.out 2).trans rfl,(Q9 ZK.out 3).trans rfl,(Q9 ZK.out 4).trans rfl,(Q9 ZK.out 5).trans rfl⟩ (fun hHeld => ?_)
           generalize w57.drew=w58 at HO_13 YY Y4 YH ZK HB hHeld ⊢
           refine qjC (i:=0) (N:=some 78) (v:=?_) (a':=?_) (Qg 7 1) rfl rfl (by kernel_rfl) (fun _ _ _ h=>h) (Or.inl ⟨by rfl,?_⟩) ?_ ?_;rotate_left
           · intro w';go_simp;with_reducible rfl
           rotate_left
           · simp only [Qf,Qb,Qe,Qd,Qc,Qk,Qm];rfl
           refine qjC (i:=1) (N:=some 79) (v:=?_) (a':=?_) (Qg 7 3) rfl rfl (by kernel_rfl) (fun _ _ _ h=>h) (Or.inl ⟨by rfl,?_⟩) ?_ ?_;rotate_left
           · intro w';go_simp;with_reducible rfl
           rotate_left
           · simp only [Qf,Qb,Qe,Qd,Qc,Qk,Qm];rfl
           refine qqc (i:=4) (N:=some 82) (v:=?_) (a':=?_) (Qg 7 19) rfl rfl (by kernel_rfl) (fun _ _ _ h=>h) (Or.inl ⟨by rfl,?_⟩) hHeld ?_ ?_;rotate_left
           · rintro w' ⟨s0,s1,s2,s3,s4,s5⟩;go_simp;with_reducible rfl
           rotate_left
           · simp only [Qf,Qb,Qe,Qd,Qc,Qk,Qm];rfl
           refine one_ (i:=2) (N:=some 80) (Qg 7 23) rfl rfl (by kernel_rfl) (by decide) (fun K hK => ?_);refine qii (w1:=?_) (v:=?_) (by rfl) rfl ?_ ?_
           rotate_left 2
           ·
            go_simp
            constructor
            · rfl
            rfl
           refine hK.out _ _ ⟨(Q9 (Q3 ZK.out _) 0).trans rfl,(Q9 (Q3 ZK.out _) 1).trans rfl,(Q9 (Q3 ZK.out _) 2).trans rfl,(Q9 (Q3 ZK.out _) 3).trans rfl,(Q9 (Q3 ZK.out _) 4).trans rfl,(Q9 (Q3 ZK.out _) 5).trans rfl⟩ (fun hHeld => ?_);clear hK K;refine G9 (a':=?_) ?_ ?_;rotate_left
           ·
            show Act.put _ (some 80) _=_
            simp only [Qf,Qb,Qe,Qd,Qc,Qk,Qm];rfl
           refine one_ (i:=3) (N:=some 81) (Qg 7 31) rfl rfl (by kernel_rfl) (by decide) (fun K hK => ?_);refine Kd.R_append_step (Kd.int .i64) (w0:=w) w.heap.size (by rfl) (.tmp 78) (.tmp 80) 37 3 (.int .i64 0) 8 rfl Try.underlying37 Xm rfl (by decide) (by omega) u13 Gr t171 [.int .i64 t171] (fun k_=>(w.heap.size≤k_)) (fun _=>False) rfl rfl ?aP (fun _ hk=>hk.elim) ?aF ?aO ?aB ?aS ?aL ?_
           (case aP=>exact rfl)
           (case aB=>exact (by repeat (first|(with_reducible first|exact HB.out|apply Q2|apply Q1|apply Q4|refine Q8 ?_ J0.out|refine Q8 ?_ Ja.out|refine Q8 ?_ Ov.out|refine Q8 ?_ WB.out)|exact HB.out)))
           (case aF=>exact (fun k_ hk=>(Nat.le_trans (Qn (by repeat (first|(with_reducible first|exact HB.out|apply Q2|apply Q1|apply Q4|refine Q8 ?_ J0.out|refine Q8 ?_ Ja.out|refine Q8 ?_ Ov.out|refine Q8 ?_ WB.out)|exact HB.out))) hk)))
           (case aO=>exact (by (with_reducible repeat (first|apply Kd.R_alloc|apply Kd.R_drewN|apply Kd.R_drew));exact HO_13.out))
           (case aS=>exact (Qn (by repeat (first|(with_reducible first|exact HB.out|apply Q2|apply Q1|apply Q4|refine Q8 ?_ J0.out|refine Q8 ?_ Ja.out|refine Q8 ?_ Ov.out|refine Q8 ?_ WB.out)|exact HB.out))))
           (case aL=>have:=qsh.out;omega)
           intro qGW w59 ho hb hg hat;rw [← qsj.out] at ho;have n0_:=Q0.mk (JZ (g:=J3) (by (with_reducible repeat (first|refine Q5 ?_ _|refine Q7 ?_|refine Q3 ?_ _));exact YY.out) hg (Kd.R_ne HO_13.out YY.out (by decide)));have n1_:=Q0.mk (JZ (g:=Z0) (by (with_reducible repeat (first|refine Q5 ?_ _|refine Q7 ?_|refine Q3 ?_ _));exact Y4.out) hg (Kd.R_ne HO_13.out Y4.out (by decide)));have n2_:=Q0.mk (JZ (g:=Yy) (by (with_reducible repeat (first|refine Q5 ?_ _|refine Q7 ?_|refine Q3 ?_ _));exact YH.out) hg (Kd.R_ne HO_13.out YH.out (by decide)));have n3_:=Q0.mk (JZ (g:=QQ) (by (with_reducible repeat (first|refine Q5 ?_ _|refine Q7 ?_|refine Q3 ?_ _));exact ZK.out) hg (Kd.R_ne HO_13.out ZK.out (by decide)));have n4_:=Q0.mk (hb);have n5_:=Q0.mk (ho);clear YY Y4 YH ZK HB HO_13;have YY:=n0_;have Y4:=n1_;have YH:=n2_;have ZK:=n3_;have HB:=n4_;have qr6:=n5_;clear n0_ n1_ n2_ n3_ n4_ n5_ ho hb hg hat;refine hK.out _ _ ⟨(Q9 ZK.out 0).trans rfl,(Q9 ZK.out 1).trans rfl,(Q9 ZK.out 2).trans rfl,(Q9 ZK.out 3).trans rfl,(Q9 ZK.out 4).trans rfl,(Q9 ZK.out 5).trans rfl⟩ (fun hHeld => ?_);clear hK K;refine G9 (a':=?_) ?_ ?_;rotate_left
           ·
            show Act.put _ (some 81) _=_
            simp only [Qf,Qb,Qe,Qd,Qc,Qk,Qm];rfl
           refine qjC (i:=5) (N:=some 13) (v:=?_) (a':=?_) (Qg 7 63) rfl rfl (by kernel_rfl) (fun _ _ _ h=>h) (Or.inl ⟨by rfl,?_⟩) ?_ ?_;rotate_left
           · intro w';go_simp;with_reducible rfl
           rotate_left
           · simp only [Qf,Qb,Qe,Qd,Qc,Qk,Qm];rfl
           refine one_ (i:=6) (N:=none) (Qg 7 127) rfl rfl (by kernel_rfl) (by decide) (fun K hK => ?_);have qGF:w59.cell? ⟨Yy,0,none⟩=some (.int .i64 Zz):=(Q9 YH.out 0).trans rfl;have qD3:=Qa YH.out 0;have qAz:=ZV.out;have qAA:=ZW.out;have qAB:=Yi.out;have qzN:=O8.out;have qzO:=O9.out;have qzP:=Yb.out;have qGG:w59.cell? ⟨Yy,1,none⟩=some (.int .i64 Zq):=(Q9 YH.out 1).trans rfl;have qD4:=Qa YH.out 1;have qAC:=ZV.out;have qAD:=ZW.out;have qAE:=Yi.out;have qzQ:=O8.out;have qzR:=O9.out;have qzS:=Yb.out;have qGH:w59.cell? ⟨Yy,2,none⟩=some (.int .i64 Zn):=(Q9 YH.out 2).trans rfl;have qD5:=Qa YH.out 2;have qAF:=ZV.out;have qAG:=ZW.out;have qAH:=Yi.out;have qzT:=O8.out;have qzU:=O9.out;have qzV:=Yb.out;have qGI:w59.cell? ⟨Yy,3,none⟩=some (.int .i64 Zi):=(Q9 YH.out 3).trans rfl;have qD6:=Qa YH.out 3;have qAI:=ZV.out;have qAJ:=ZW.out;have qAK:=Yi.out;have qzW:=O8.out;have qzX:=O9.out;have qzY:=Yb.out;have qGJ:w59.cell? ⟨Yy,4,none⟩=some (.int .i64 Zf):=(Q9 YH.out 4).trans rfl;have qD7:=Qa YH.out 4;have qAL:=ZV.out;have qAM:=ZW.out;have qAN:=Yi.out;have qzZ:=O8.out;have qz0:=O9.out;have qz1:=Yb.out;have qGK:w59.cell? ⟨Yy,5,none⟩=some (.int .i64 Za):=(Q9 YH.out 5).trans rfl;have qD8:=Qa YH.out 5;have qAO:=ZV.out;have qAP:=ZW.out;have qAQ:=Yi.out;have qz2:=O8.out;have qz3:=O9.out;have qz4:=Yb.out;refine qgK (w1:=?_) (by rfl) rfl ?_ ?_;rotate_left
           ·
            go_simp;rfl
           refine hK.out _ _ ⟨((Qw (p:=⟨Yy,_,none⟩) Yi.out _).trans (((Qw (p:=⟨Yy,_,none⟩) Yi.out _).trans (((Qw (p:=⟨Yy,_,none⟩) Yi.out _).trans (((Qw (p:=⟨Yy,_,none⟩) Yi.out _).trans (((Qw (p:=⟨Yy,_,none⟩) Yi.out _).trans (((Qw (p:=⟨Yy,_,none⟩) Yi.out _).trans (hHeld.1)))))))))))),((Qw (p:=⟨Yy,_,none⟩) Yi.out _).trans (((Qw (p:=⟨Yy,_,none⟩) Yi.out _).trans (((Qw (p:=⟨Yy,_,none⟩) Yi.out _).trans (((Qw (p:=⟨Yy,_,none⟩) Yi.out _).trans (((Qw (p:=⟨Yy,_,none⟩) Yi.out _).trans (((Qw (p:=⟨Yy,_,none⟩) Yi.out _).trans (hHeld.2.1)))))))))))),((Qw (p:=⟨Yy,_,none⟩) Yi.out _).trans (((Qw (p:=⟨Yy,_,none⟩) Yi.out _).trans (((Qw (p:=⟨Yy,_,none⟩) Yi.out _).trans (((Qw (p:=⟨Yy,_,none⟩) Yi.out _).trans (((Qw (p:=⟨Yy,_,none⟩) Yi.out _).trans (((Qw (p:=⟨Yy,_,none⟩) Yi.out _).trans (hHeld.2.2.1)))))))))))),((Qw (p:=⟨Yy,_,none⟩) Yi.out _).trans (((Qw (p:=⟨Yy,_,none⟩) Yi.out _).trans (((Qw (p:=⟨Yy,_,none⟩) Yi.out _).trans (((Qw (p:=⟨Yy,_,none⟩) Yi.out _).trans (((Qw (p:=⟨Yy,_,none⟩) Yi.out _).trans (((Qw (p:=⟨Yy,_,none⟩) Yi.out _).trans (hHeld.2.2.2.1)))))))))))),((Qw (p:=⟨Yy,_,none⟩) Yi.out _).trans (((Qw (p:=⟨Yy,_,none⟩) Yi.out _).trans (((Qw (p:=⟨Yy,_,none⟩) Yi.out _).trans (((Qw (p:=⟨Yy,_,none⟩) Yi.out _).trans (((Qw (p:=⟨Yy,_,none⟩) Yi.out _).trans (((Qw (p:=⟨Yy,_,none⟩) Yi.out _).trans (hHeld.2.2.2.2.1)))))))))))),((Qw (p:=⟨Yy,_,none⟩) Yi.out _).trans (((Qw (p:=⟨Yy,_,none⟩) Yi.out _).trans (((Qw (p:=⟨Yy,_,none⟩) Yi.out _).trans (((Qw (p:=⟨Yy,_,none⟩) Yi.out _).trans (((Qw (p:=⟨Yy,_,none⟩) Yi.out _).trans (((Qw (p:=⟨Yy,_,none⟩) Yi.out _).trans (hHeld.2.2.2.2.2))))))))))))⟩ (fun hHeld => ?_);clear hK K;refine Oz (by kernel_rfl) ?_
           try go_wp2
           go_roundg k4
           case measure=>have:=HJ3.out;have:=HK2.out;have:=UQ.out;have:=HK4.out;omega
           case rel=>exact ⟨(qu7),(wrap64 (Jf+1)),(KQ),(t173),(OA),(t175),(U5),(Wh),(by first|rfl|(simp;done)|(simp [*];done)),H',⟨by have:=HJ3.out;have:=HK2.out;have:=UQ.out;have:=HK4.out;omega⟩,⟨by (with_reducible repeat (first|apply Kd.R_alloc|apply Kd.R_drewN|apply Kd.R_drew));exact Kd.R_mono (Kd.R_far (p:=⟨Yy,5,none⟩) (Kd.R_far (p:=⟨Yy,4,none⟩) (Kd.R_far (p:=⟨Yy,3,none⟩) (Kd.R_far (p:=⟨Yy,2,none⟩) (Kd.R_far (p:=⟨Yy,1,none⟩) (Kd.R_far (p:=⟨Yy,0,none⟩) (Kd.R_types qr6.out YH.out (by decide)) (fun _ hk=>hk.2) (.int .i64 KQ)) (fun _ hk=>hk.2) (.int .i64 t173)) (fun _ hk=>hk.2) (.int .i64 OA)) (fun _ hk=>hk.2) (.int .i64 t175)) (fun _ hk=>hk.2) (.int .i64 U5)) (fun _ hk=>hk.2) (.int .i64 Wh)) (fun _ hk=>hk.1)⟩,⟨by (with_reducible repeat (first|refine Q5 ?_ _|refine Q7 ?_|refine Q3 ?_ _));refine Qx ?_ ZV.out _;(with_reducible repeat (first|refine Q5 ?_ _|refine Q7 ?_|refine Q3 ?_ _));refine Qx ?_ ZV.out _;(with_reducible repeat (first|refine Q5 ?_ _|refine Q7 ?_|refine Q3 ?_ _));refine Qx ?_ ZV.out _;(with_reducible repeat (first|refine Q5 ?_ _|refine Q7 ?_|refine Q3 ?_ _));refine Qx ?_ ZV.out _;(with_reducible repeat (first|refine Q5 ?_ _|refine Q7 ?_|refine Q3 ?_ _));refine Qx ?_ ZV.out _;(with_reducible repeat (first|refine Q5 ?_ _|refine Q7 ?_|refine Q3 ?_ _));refine Qx ?_ ZV.out _;(with_reducible repeat (first|refine Q5 ?_ _|refine Q7 ?_|refine Q3 ?_ _));exact YY.out⟩,⟨by (with_reducible repeat (first|refine Q5 ?_ _|refine Q7 ?_|refine Q3 ?_ _));refine Qx ?_ ZW.out _;(with_reducible repeat (first|refine Q5 ?_ _|refine Q7 ?_|refine Q3 ?_ _));refine Qx ?_ ZW.out _;(with_reducible repeat (first|refine Q5 ?_ _|refine Q7 ?_|refine Q3 ?_ _));refine Qx ?_ ZW.out _;(with_reducible repeat (first|refine Q5 ?_ _|refine Q7 ?_|refine Q3 ?_ _));refine Qx ?_ ZW.out _;(with_reducible repeat (first|refine Q5 ?_ _|refine Q7 ?_|refine Q3 ?_ _));refine Qx ?_ ZW.out _;(with_reducible repeat (first|refine Q5 ?_ _|refine Q7 ?_|refine Q3 ?_ _));refine Qx ?_ ZW.out _;(with_reducible repeat (first|refine Q5 ?_ _|refine Q7 ?_|refine Q3 ?_ _));exact Y4.out⟩,⟨by (with_reducible repeat (first|refine Q5 ?_ _|refine Q7 ?_|refine Q3 ?_ _));refine QG (cs:=#[.int .i64 KQ,.int .i64 t173,.int .i64 OA,.int .i64 t175,.int .i64 U5,.int .i64 Za]) ?_ 5 _ rfl;(with_reducible repeat (first|refine Q5 ?_ _|refine Q7 ?_|refine Q3 ?_ _));refine QG (cs:=#[.int .i64 KQ,.int .i64 t173,.int .i64 OA,.int .i64 t175,.int .i64 Zf,.int .i64 Za]) ?_ 4 _ rfl;(with_reducible repeat (first|refine Q5 ?_ _|refine Q7 ?_|refine Q3 ?_ _));refine QG (cs:=#[.int .i64 KQ,.int .i64 t173,.int .i64 OA,.int .i64 Zi,.int .i64 Zf,.int .i64 Za]) ?_ 3 _ rfl;(with_reducible repeat (first|refine Q5 ?_ _|refine Q7 ?_|refine Q3 ?_ _));refine QG (cs:=#[.int .i64 KQ,.int .i64 t173,.int .i64 Zn,.int .i64 Zi,.int .i64 Zf,.int .i64 Za]) ?_ 2 _ rfl;(with_reducible repeat (first|refine Q5 ?_ _|refine Q7 ?_|refine Q3 ?_ _));refine QG (cs:=#[.int .i64 KQ,.int .i64 Zq,.int .i64 Zn,.int .i64 Zi,.int .i64 Zf,.int .i64 Za]) ?_ 1 _ rfl;(with_reducible repeat (first|refine Q5 ?_ _|refine Q7 ?_|refine Q3 ?_ _));refine QG (cs:=#[.int .i64 Zz,.int .i64 Zq,.int .i64 Zn,.int .i64 Zi,.int .i64 Zf,.int .i64 Za]) ?_ 0 _ rfl;(with_reducible repeat (first|refine Q5 ?_ _|refine Q7 ?_|refine Q3 ?_ _));exact YH.out⟩,⟨by repeat (first|(with_reducible first|exact HB.out|apply Q2|apply Q1|apply Q4|refine Q8 ?_ J0.out|refine Q8 ?_ Ja.out|refine Q8 ?_ Ov.out|refine Q8 ?_ WB.out)|exact HB.out)⟩⟩
          rw [if_neg c46] at H
          exact absurd H (by simp)
         rw [if_neg c44] at H
         exact absurd H (by simp)
        rw [if_neg c43] at H
        exact absurd H (by simp)
       rw [if_neg c42] at H
       exact absurd H (by simp)
      rw [if_neg c41] at H;have c41b0:decide (Jf<(l1.length:Int))=false:=decide_eq_false c41;clear c41
      by_cases c66:0≤(Gr.length:Int)
      ·
       rw [if_pos c66] at H;have c66b0:=eq_true c66;have c66b1:decide (0≤(Gr.length:Int))=true:=decide_eq_true c66;clear c66
       by_cases c67:(Gr.length:Int)≤(Gr.length:Int)
       ·
        rw [if_pos c67] at H;have c67b0:=eq_true c67;have c67b1:decide ((Gr.length:Int)≤(Gr.length:Int))=true:=decide_eq_true c67;clear c67;obtain ⟨qru,qf1⟩:∃ y_:List Int,y_=(Gr.take ((Gr.length:Int):Int).toNat):=⟨_,rfl⟩
        replace H:(some (qru,0))=some (r1,r2):=by first|(rw [qf1];with_reducible exact H)|(have H2_:=(Option.bind_some _ _).symm.trans H;rw [qf1];with_reducible exact H2_)|(have H2_:=(Option.bind_some _ _).symm.trans H;with_reducible exact H2_)|with_reducible exact H|(rw [qf1];exact H)|exact H
        have qpl:=Q0.mk qf1;clear qf1;simp only [Option.some.injEq,Prod.mk.injEq] at H;obtain ⟨rfl,rfl⟩:=H;obtain ⟨qA2,qBi,qBU⟩:=Kd.R_slice HO_13.out;subst qBU;have q69:((Gr.length:Int):Int)≤((Gr.length:Int):Int):=of_decide_eq_true (by first|(with_reducible assumption)|assumption);obtain ⟨qGR,qpY,_,quX,_⟩:=info_parts Xm;have qB3:=Wa (P:=Try.prog) 37 3 Try.underlying37 qpY qA2 Gr.length qBi (Kd.R_reads' HO_13.out).2.1;have qqU:=Kd.R_take (m:=((Gr.length:Int):Int).toNat) HO_13.out (by omega);have qu1:qru.length=((Gr.length:Int):Int).toNat:=(by rw [qpl.out,List.length_take];omega);rw [← qpl.out] at qqU
        have qu2:Gr.length=qru.length:=by rw [qu1];omega
        have qA7:=Q0.mk qu2;clear qu1 qu2 qpY quX HO_13;have qr7:=Q0.mk qqU;clear qqU;replace q69:=eq_true q69
        go_wp2
        go_ret2
        exact ⟨_,by first|rfl|(simp [QC,QD]<;>rfl)|(simp [*,QC,QD]<;>rfl),qlc (by (with_reducible repeat (first|apply Kd.R_alloc|apply Kd.R_drewN|apply Kd.R_drew));exact qr7.out) _ qA7.out,by repeat (first|(with_reducible first|exact HB.out|apply Q2|apply Q1|apply Q4|refine Q8 ?_ J0.out|refine Q8 ?_ Ja.out|refine Q8 ?_ Ov.out)|exact HB.out)⟩
       rw [if_neg c67] at H
       exact absurd H (by simp)
      rw [if_neg c66] at H
      exact absurd H (by simp)
    replace c32:=Bool.eq_false_iff.mpr c32;subst c32
    have H1:(some (([]:List Int),92))=some (r1,r2):=by rw [if_neg (show ¬ (false=true) by decide)] at H;exact H
    clear H;have H:=H1;clear H1;simp only [Option.some.injEq,Prod.mk.injEq] at H;obtain ⟨rfl,rfl⟩:=H
    go_wp2
    go_ret2
    exact ⟨_,by first|rfl|(simp [QC,QD]<;>rfl)|(simp [*,QC,QD]<;>rfl),(by first|exact Kd.V_nil _ _ _ _ _|(show Kd.V _ _ _ _ _ (.slice none 0 0) [];exact Kd.V_nil _ _ _ _ _)),by repeat (first|(with_reducible first|exact HB.out|apply Q2|apply Q1|apply Q4|refine Q8 ?_ J0.out|refine Q8 ?_ Ja.out)|exact HB.out)⟩
end
section
attribute [local go_sem] YR YU Z8 Z9 YA YC YT YV
def Z7.l0:Nat→List Int→List Int→Int→Option (Bool)
 | 0,_,_,_=>none
 | k+1,x0,x1,x5=>if x5<(x0.length:Int) then (if 0≤x5 then (if x5<(x1.length:Int) then (if (rd x0 x5)=(rd x1 x5) then (Z7.l0 k x0 x1 (wrap64 (x5+1))) else (some false)) else (none)) else (none)) else (some true)
def Z7.f (k:Nat) (l0:List Int) (l1:List Int):Option (Bool):=if (l0.length:Int)=(l1.length:Int) then (Z7.l0 k l0 l1 0) else (some false)
set_option maxHeartbeats 8000000 in
set_option maxRecDepth 100000 in
theorem Z7.calls (k:Nat) (A0:Option Addr) (c0:Nat) (l0:List Int) (A1:Option Addr) (c1:Nat) (l1:List Int) (r:Bool) (w:World) (hr0:Kd.C (Kd.int .i64) w A0 l0.length l0) (hc0:l0.length≤c0) (hr1:Kd.C (Kd.int .i64) w A1 l1.length l1) (hc1:l1.length≤c1) (h:Z7.f k l0 l1=some r) :
  Calls Try.prog 27 #[.slice A0 l0.length c0,.slice A1 l1.length c1] w fun e w'=>e = .returned (.bool r)∧YQ w w':=by
 have HR0:=Q0.mk hr0
 have HC0:=Q0.mk hc0
 clear hr0 hc0
 have HR1:=Q0.mk hr1
 have HC1:=Q0.mk hc1
 clear hr1 hc1
 have H:(if (l0.length:Int)=(l1.length:Int) then (Z7.l0 k l0 l1 0) else (some false))=some r:=h
 clear h
 by_cases c3:(l0.length:Int)=(l1.length:Int)
 ·
  rw [if_pos c3] at H
  have c3b0:((l0.length:Int)==(l1.length:Int))=true:=beq_iff_eq.mpr c3
  have c3b1:((l0.length:Int) != (l1.length:Int))=false:=bne_eq_false_iff_eq.mpr c3
  have c3b2:(l0.length==l1.length)=true:=by first|simpa using c3|(simp at c3 ⊢;omega)
  clear c3
  have H':=Q0.mk H
  clear H
  go_enter Try.func27,Try.ntmps27
  go_wp2
  repeat (go_quiet (fail);try go_wp2)
  go_loopg [5] k (fun kq v5 w' => ∃ (Zt:Int),v5 = .int .i64 Zt∧Q0 (Z7.l0 kq l0 l1 Zt=some r)∧Q0 (kq≤k)∧YQ w w')
  case atStart=>exact ⟨(0),(by first|rfl|(simp;done)|(simp [*];done)),H',⟨Nat.le_refl _⟩,by repeat (first|exact YQ.refl _|apply YQ.step)⟩
  clear H'
  try clear c1
  try clear c2
  try clear p2
  try clear c3
  try clear c3b0
  try clear c3b1
  try clear c3b2
  obtain ⟨Zt,rfl,HA,HK1,⟨m1,rfl⟩⟩:=hrel
  cases gk with
  | zero=>exact absurd HA.out (by simp [Z7.l0])
  | succ k1 =>
   have H:=HA.out
   clear HA
   simp only [Z7.l0] at H
   by_cases c4:Zt<(l0.length:Int)
   ·
    rw [if_pos c4] at H;have c4b0:decide (Zt<(l0.length:Int))=true:=decide_eq_true c4;clear c4
    by_cases c5:0≤Zt
    ·
     rw [if_pos c5] at H;have c5b0:decide (0≤Zt)=true:=decide_eq_true c5;clear c5
     by_cases c6:Zt<(l1.length:Int)
     ·
      rw [if_pos c6] at H;have c6b0:decide (Zt<(l1.length:Int))=true:=decide_eq_true c6;clear c6
      by_cases c7:(rd l0 Zt)=(rd l1 Zt)
      ·
       rw [if_pos c7] at H;have c7b0:((rd l0 Zt)==(rd l1 Zt))=true:=beq_iff_eq.mpr c7;have c7b1:((rd l0 Zt) != (rd l1 Zt))=false:=bne_eq_false_iff_eq.mpr c7;clear c7;have H':=Q0.mk H;clear H;have qhL:0≤(Zt:Int):=of_decide_eq_true (by first|(with_reducible assumption)|assumption);have qh0:Zt<(l0.length:Int):=of_decide_eq_true (by first|(with_reducible assumption)|assumption);obtain ⟨qsw,e185,qox⟩:=Kd.at_int HR0.out Zt qhL qh0;cases e185;replace qhL:=eq_true qhL;replace qh0:=eq_true qh0;have qhM:0≤(Zt:Int):=of_decide_eq_true (by first|(with_reducible assumption)|assumption);have qh1:Zt<(l1.length:Int):=of_decide_eq_true (by first|(with_reducible assumption)|assumption);obtain ⟨qsx,qqA,qoy⟩:=Kd.at_int HR1.out Zt qhM qh1;cases qqA;replace qhM:=eq_true qhM;replace qh1:=eq_true qh1
       go_wp2
       repeat (go_quiet (fail);try go_wp2)
       go_roundg k1
       case measure=>have:=HK1.out;omega
       case rel=>exact ⟨(wrap64 (Zt+1)),(by first|rfl|(simp;done)|(simp [*];done)),H',⟨by have:=HK1.out;omega⟩,by repeat (first|exact YQ.refl _|apply YQ.step)⟩
      rw [if_neg c7] at H;have c7b0:((rd l0 Zt)==(rd l1 Zt))=false:=beq_eq_false_iff_ne.mpr c7;have c7b1:((rd l0 Zt) != (rd l1 Zt))=true:=bne_iff_ne.mpr c7;obtain rfl:=Option.some.inj H;have qhL:0≤(Zt:Int):=of_decide_eq_true (by first|(with_reducible assumption)|assumption);have qh0:Zt<(l0.length:Int):=of_decide_eq_true (by first|(with_reducible assumption)|assumption);obtain ⟨qsw,e185,qox⟩:=Kd.at_int HR0.out Zt qhL qh0;cases e185;replace qhL:=eq_true qhL;replace qh0:=eq_true qh0;have qhM:0≤(Zt:Int):=of_decide_eq_true (by first|(with_reducible assumption)|assumption);have qh1:Zt<(l1.length:Int):=of_decide_eq_true (by first|(with_reducible assumption)|assumption);obtain ⟨qsx,qqA,qoy⟩:=Kd.at_int HR1.out Zt qhM qh1;cases qqA;replace qhM:=eq_true qhM;replace qh1:=eq_true qh1
      go_wp2
      repeat (go_quiet (fail);try go_wp2)
      go_ret
      exact ⟨by first|rfl|(simp;done)|(simp [*];done),by repeat (first|exact YQ.refl _|apply YQ.step)⟩
     rw [if_neg c6] at H
     exact absurd H (by simp)
    rw [if_neg c5] at H
    exact absurd H (by simp)
   rw [if_neg c4] at H
   have c4b0:decide (Zt<(l0.length:Int))=false:=decide_eq_false c4
   clear c4
   obtain rfl:=Option.some.inj H
   go_wp2
   repeat (go_quiet (fail);try go_wp2)
   go_ret
   exact ⟨by first|rfl|(simp;done)|(simp [*];done),by repeat (first|exact YQ.refl _|apply YQ.step)⟩
 rw [if_neg c3] at H
 have c3b0:((l0.length:Int)==(l1.length:Int))=false:=beq_eq_false_iff_ne.mpr c3
 have c3b1:((l0.length:Int) != (l1.length:Int))=true:=bne_iff_ne.mpr c3
 have c3b2:(l0.length==l1.length)=false:=by first|simpa using c3|(simp at c3 ⊢;omega)
 obtain rfl:=Option.some.inj H
 go_enter Try.func27,Try.ntmps27
 go_wp2
 repeat (go_quiet (fail);try go_wp2)
 go_ret
 exact ⟨by first|rfl|(simp;done)|(simp [*];done),by repeat (first|exact YQ.refl _|apply YQ.step)⟩
end
section
attribute [local go_sem] YR YU Z8 Z9 YA YC YT YV
mutual
def QA.j0:Nat→Int→Bool→List (S39)→List Int→List (List (List Int))→Option (Int)
 | 0,_,_,_,_,_=>none
 | k+1,x3,x4,ZJ,J7,ZN=>QA.l0 k x3 x4 0 ZJ J7 ZN
def QA.l0:Nat→Int→Bool→Int→List (S39)→List Int→List (List (List Int))→Option (Int)
 | 0,_,_,_,_,_,_=>none
 | k+1,x3,x4,x5,ZJ,J7,ZN=>if x4=true then (QA.j2 k x3 x4 x5 (decide (x5<x3)) ZJ J7 ZN) else (QA.j2 k x3 x4 x5 false ZJ J7 ZN)
def QA.j2:Nat→Int→Bool→Int→Bool→List (S39)→List Int→List (List (List Int))→Option (Int)
 | 0,_,_,_,_,_,_,_=>none
 | k+1,x3,x4,x5,x35,ZJ,J7,ZN=>if x35=true then (if 0≤x5 then (if x5<(ZJ.length:Int) then ((Qy.f k ((Qj ZJ x5).f0) ((Qj ZJ x5).f1) ((Qj ZJ x5).f2) ((Qj ZJ x5).f3) ((Qj ZJ x5).f4)).bind fun qkx=>(if qkx=true then (if x5<(J7.length:Int) then ((Qt.f (rd J7 x5) 0 100).bind fun t193=>(QA.l0 k x3 t193 (wrap64 (x5+1)) ZJ J7 ZN)) else (none)) else (QA.l0 k x3 false (wrap64 (x5+1)) ZJ J7 ZN))) else (none)) else (none)) else (QA.l1 k x3 x4 ZN (ZN.length:Int) 0 ZJ J7 ZN)
def QA.l1:Nat→Int→Bool→List (List (List Int))→Int→Int→List (S39)→List Int→List (List (List Int))→Option (Int)
 | 0,_,_,_,_,_,_,_,_=>none
 | k+1,x3,x4,x54,x55,x56,ZJ,J7,ZN=>if x56<x55 then (if 0≤x56 then (if x56<(x54.length:Int) then (if x4=true then (QA.j4 k x3 (((QO x54 x56).length:Int)==x3) (QO x54 x56) x54 x55 x56 ZJ J7 ZN) else (QA.j4 k x3 false (QO x54 x56) x54 x55 x56 ZJ J7 ZN)) else (none)) else (none)) else (if x4=true then (some 0) else (some 93))
def QA.j4:Nat→Int→Bool→List (List Int)→List (List (List Int))→Int→Int→List (S39)→List Int→List (List (List Int))→Option (Int)
 | 0,_,_,_,_,_,_,_,_,_=>none
 | k+1,x3,x4,x7,x54,x55,x56,ZJ,J7,ZN=>QA.l2 k x3 x4 x54 x55 x56 x7 (x7.length:Int) 0 ZJ J7 ZN
def QA.l2:Nat→Int→Bool→List (List (List Int))→Int→Int→List (List Int)→Int→Int→List (S39)→List Int→List (List (List Int))→Option (Int)
 | 0,_,_,_,_,_,_,_,_,_,_,_=>none
 | k+1,x3,x4,x54,x55,x56,x67,x68,x69,ZJ,J7,ZN=>if x69<x68 then (if 0≤x69 then (if x69<(x67.length:Int) then (if x4=true then ((Qt.f ((Yg x67 x69).length:Int) 1 10).bind fun t196=>(if t196=true then (if 0<(ZN.length:Int) then (if 0<((QO ZN 0).length:Int) then (QA.j6 k x3 (((Yg x67 x69).length:Int)==((Yg (QO ZN 0) 0).length:Int)) (Yg x67 x69) x54 x55 x56 x67 x68 x69 ZJ J7 ZN) else (none)) else (none)) else (QA.j6 k x3 false (Yg x67 x69) x54 x55 x56 x67 x68 x69 ZJ J7 ZN))) else (QA.j6 k x3 false (Yg x67 x69) x54 x55 x56 x67 x68 x69 ZJ J7 ZN)) else (none)) else (none)) else (QA.l1 k x3 x4 x54 x55 (wrap64 (x56+1)) ZJ J7 ZN)
def QA.j6:Nat→Int→Bool→List Int→List (List (List Int))→Int→Int→List (List Int)→Int→Int→List (S39)→List Int→List (List (List Int))→Option (Int)
 | 0,_,_,_,_,_,_,_,_,_,_,_,_=>none
 | k+1,x3,x4,x9,x54,x55,x56,x67,x68,x69,ZJ,J7,ZN=>QA.l3 k x3 x4 x54 x55 x56 x67 x68 x69 x9 (x9.length:Int) 0 ZJ J7 ZN
def QA.l3:Nat→Int→Bool→List (List (List Int))→Int→Int→List (List Int)→Int→Int→List Int→Int→Int→List (S39)→List Int→List (List (List Int))→Option (Int)
 | 0,_,_,_,_,_,_,_,_,_,_,_,_,_,_=>none
 | k+1,x3,x4,x54,x55,x56,x67,x68,x69,x91,x92,x93,ZJ,J7,ZN=>if x93<x92 then (if 0≤x93 then (if x93<(x91.length:Int) then (if x4=true then ((Qt.f (rd x91 x93) 0 100000).bind fun qie=>(QA.l3 k x3 qie x54 x55 x56 x67 x68 x69 x91 x92 (wrap64 (x93+1)) ZJ J7 ZN)) else (QA.l3 k x3 false x54 x55 x56 x67 x68 x69 x91 x92 (wrap64 (x93+1)) ZJ J7 ZN)) else (none)) else (none)) else (QA.l2 k x3 x4 x54 x55 x56 x67 x68 (wrap64 (x69+1)) ZJ J7 ZN)
end
def QA.f (k:Nat) (Qi:List (S39)) (Qu:List Int) (Ql:List (List (List Int))):Option (Int):=(Qt.f (Qi.length:Int) 1 3).bind fun qkw=>(if qkw=true then (if (Qu.length:Int)=(Qi.length:Int) then ((Qt.f (Ql.length:Int) 1 6).bind fun qdp=>(QA.j0 k (Qi.length:Int) qdp Qi Qu Ql)) else (QA.j0 k (Qi.length:Int) false Qi Qu Ql)) else (QA.j0 k (Qi.length:Int) false Qi Qu Ql))
set_option maxHeartbeats 8000000 in
set_option maxRecDepth 100000 in
theorem QA.calls (k:Nat) (Ya:Option Addr) (QP:Nat) (Qi:List (S39)) (Y6:Option Addr) (QR:Nat) (Qu:List Int) (Yc:Option Addr) (QS:Nat) (Ql:List (List (List Int))) (r:Int) (w:World) (GQ:Kd.C k39 w Ya Qi.length Qi) (Ka:Qi.length≤QP) (GR:Kd.C (Kd.int .i64) w Y6 Qu.length Qu) (Kb:Qu.length≤QR) (GT:Kd.C (Kd.slice 37 (Kd.slice 3 (Kd.int .i64))) w Yc Ql.length Ql) (Ke:Ql.length≤QS) (h:QA.f k Qi Qu Ql=some r) :
  Calls Try.prog 30 #[.agg #[.slice Ya Qi.length QP,.slice Y6 Qu.length QR,.slice Yc Ql.length QS]] w fun e w'=>e = .returned (.int .i64 r)∧Below w.heap.size w w':=by
 have qqV:=Try.underlying47
 have qor:=Try.underlying39
 have ql3:=Try.underlying111
 have JI:=Q0.mk GQ
 have G5:=Q0.mk Ka
 clear GQ Ka
 have JU:=Q0.mk GR
 have G6:=Q0.mk Kb
 clear GR Kb
 have JV:=Q0.mk GT
 have G7:=Q0.mk Ke
 clear GT Ke
 have HB:=Q0.mk (Below.refl w.heap.size w)
 have H:((Qt.f (Qi.length:Int) 1 3).bind fun qkw=>(if qkw=true then (if (Qu.length:Int)=(Qi.length:Int) then ((Qt.f (Ql.length:Int) 1 6).bind fun qdp=>(QA.j0 k (Qi.length:Int) qdp Qi Qu Ql)) else (QA.j0 k (Qi.length:Int) false Qi Qu Ql)) else (QA.j0 k (Qi.length:Int) false Qi Qu Ql)))=some r:=h
 clear h
 have HC2:=Q0.mk H
 clear H
 go_enter Try.func30,Try.ntmps30
 go_upto_region 2 with (first|((with_reducible refine Y0 (N:=1) rfl ?_);(try (refine G4 (by rfl) ?_;dsimp only));refine Yv ?hg (N:=1) ?hd (cs:=#[.slice Ya Qi.length QP,.slice Y6 Qu.length QR,.slice Yc Ql.length QS]) (t:=47) ?hr ?_;(case hd=>rfl);(case hg=>rfl);(case hr=>first|(go_simp;done)|(go_simp;rfl));intro Jx hg w3 hbox hb;have n0_:=Q0.mk (Qv (by repeat (first|(with_reducible first|exact HB.out|apply Q2|apply Q1|apply Q4)|exact HB.out)) hb);have n1_:=Q0.mk (hbox);have n2_:=Q0.mk ((by rw [hg];exact (Qn (by repeat (first|(with_reducible first|exact HB.out|apply Q2|apply Q1|apply Q4)|exact HB.out))):w.heap.size≤Jx));have n3_:=n2_;clear HB;have HB:=n0_;have YX:=n1_;have qDc:=n2_;have Gw:=n3_;clear n0_ n1_ n2_ n3_ hb hbox hg;have Kg:w3.cell? ⟨Jx,0,none⟩=some (.slice Ya Qi.length QP):=(Q9 YX.out 0).trans rfl;have Kh:w3.cell? ⟨Jx,1,none⟩=some (.slice Y6 Qu.length QR):=(Q9 YX.out 1).trans rfl;have KB:w3.cell? ⟨Jx,2,none⟩=some (.slice Yc Ql.length QS):=(Q9 YX.out 2).trans rfl;have Ki:=Qa YX.out 0;have Kj:=Qa YX.out 1;have KF:=Qa YX.out 2))
 (try simp only [Qf,Qb,Qe,Qd,Qc])
 go_cut [4] (fun v4 wc => ∃ (kq:Nat) (qbd:Bool),v4 = .bool qbd∧Q0 (QA.j0 kq (Qi.length:Int) qbd Qi Qu Ql=some r)∧Q0 (kq≤k)∧Q0 (wc.heap[Jx]? = some (.cells #[(.slice Ya Qi.length QP),(.slice Y6 Qu.length QR),(.slice Yc Ql.length QS)] 47 (0,0)))∧Q0 (Below w.heap.size w wc))
 case first =>
  have H:=HC2.out
  clear HC2
  replace H:=Option.bind_eq_some_iff.mp H
  obtain ⟨qkw,A50,H⟩:=H
  replace H:(if qkw=true then (if (Qu.length:Int)=(Qi.length:Int) then ((Qt.f (Ql.length:Int) 1 6).bind fun qdp=>(QA.j0 k (Qi.length:Int) qdp Qi Qu Ql)) else (QA.j0 k (Qi.length:Int) false Qi Qu Ql)) else (QA.j0 k (Qi.length:Int) false Qi Qu Ql))=some r:=H
  have A5:=Q0.mk A50
  clear A50
  by_cases c6:qkw=true
  ·
   subst c6
   have H1:(if (Qu.length:Int)=(Qi.length:Int) then ((Qt.f (Ql.length:Int) 1 6).bind fun qdp=>(QA.j0 k (Qi.length:Int) qdp Qi Qu Ql)) else (QA.j0 k (Qi.length:Int) false Qi Qu Ql))=some r:=by rw [if_pos rfl] at H;exact H
   clear H
   have H:=H1
   clear H1
   by_cases c7:(Qu.length:Int)=(Qi.length:Int)
   ·
    rw [if_pos c7] at H;have c7b0:((Qu.length:Int)==(Qi.length:Int))=true:=beq_iff_eq.mpr c7;have c7b1:((Qu.length:Int) != (Qi.length:Int))=false:=bne_eq_false_iff_eq.mpr c7
    have c7b2:(Qu.length==Qi.length)=true:=by first|simpa using c7|(simp at c7 ⊢;omega)
    clear c7
    (first|rw [c7b0]|(simp only [Qk,Qm];rw [c7b0])|skip)
    replace H:=Option.bind_eq_some_iff.mp H;obtain ⟨qdp,A80,H⟩:=H;replace H:(QA.j0 k (Qi.length:Int) qdp Qi Qu Ql)=some r:=H;have A8:=Q0.mk A80;clear A80;have H':=Q0.mk H;clear H
    go_wp2_with (first|((with_reducible refine QF (f:=65) rfl ?_);refine YE (some 16) rfl rfl Try.func65 (by kernel_rfl) rfl #[.int .i64 (Qi.length:Int),.int .i64 1,.int .i64 3] rfl (by (try simp only [List.map_toArray,List.map_cons,List.map_nil]);first|done|rfl|(simp only [List.length_drop,List.length_take];rfl)) ?_;(with_reducible refine (Qt.calls (Qi.length:Int) 1 3 true _ A5.out).mono ?_);rintro e w' ⟨rfl,⟨nd,rfl⟩⟩;refine ⟨_,rfl,?_⟩;have KC:w3.cell? ⟨Jx,0,none⟩=some (.slice Ya Qi.length QP):=(Q9 YX.out 0).trans rfl;have KD:w3.cell? ⟨Jx,1,none⟩=some (.slice Y6 Qu.length QR):=(Q9 YX.out 1).trans rfl;have KE:w3.cell? ⟨Jx,2,none⟩=some (.slice Yc Ql.length QS):=(Q9 YX.out 2).trans rfl;have KG:=Qa YX.out 0;have KH:=Qa YX.out 1;have KI:=Qa YX.out 2)|(go_at_call 65;(with_reducible refine (Qt.calls (Ql.length:Int) 1 6 qdp _ A8.out).mono ?_);rintro e w' ⟨rfl,⟨nd,rfl⟩⟩))
    go_meet
    case rel=>exact ⟨_,(qdp),(by first|rfl|(simp;done)|(simp [*];done)),H',⟨by first|omega|exact Nat.le_refl _⟩,⟨by (with_reducible repeat (first|refine Q5 ?_ _|refine Q7 ?_|refine Q3 ?_ _));exact YX.out⟩,⟨by repeat (first|(with_reducible first|exact HB.out|apply Q2|apply Q1|apply Q4|refine Q8 ?_ Gw.out)|exact HB.out)⟩⟩
   rw [if_neg c7] at H
   have c7b0:((Qu.length:Int)==(Qi.length:Int))=false:=beq_eq_false_iff_ne.mpr c7
   have c7b1:((Qu.length:Int) != (Qi.length:Int))=true:=bne_iff_ne.mpr c7
   have c7b2:(Qu.length==Qi.length)=false:=by first|simpa using c7|(simp at c7 ⊢;omega)
   (first|rw [c7b0]|(simp only [Qk,Qm];rw [c7b0])|skip)
   have H':=Q0.mk H
   clear H
   go_wp2_with (first|((with_reducible refine QF (f:=65) rfl ?_);refine YE (some 16) rfl rfl Try.func65 (by kernel_rfl) rfl #[.int .i64 (Qi.length:Int),.int .i64 1,.int .i64 3] rfl (by (try simp only [List.map_toArray,List.map_cons,List.map_nil]);first|done|rfl|(simp only [List.length_drop,List.length_take];rfl)) ?_;(with_reducible refine (Qt.calls (Qi.length:Int) 1 3 true _ A5.out).mono ?_);rintro e w' ⟨rfl,⟨nd,rfl⟩⟩;refine ⟨_,rfl,?_⟩;have GA:w3.cell? ⟨Jx,0,none⟩=some (.slice Ya Qi.length QP):=(Q9 YX.out 0).trans rfl;have GC:w3.cell? ⟨Jx,1,none⟩=some (.slice Y6 Qu.length QR):=(Q9 YX.out 1).trans rfl;have Ko:w3.cell? ⟨Jx,2,none⟩=some (.slice Yc Ql.length QS):=(Q9 YX.out 2).trans rfl;have GD:=Qa YX.out 0;have GE:=Qa YX.out 1;have Kp:=Qa YX.out 2))
   go_meet
   case rel=>exact ⟨_,(false),(by first|rfl|(simp;done)|(simp [*];done)),H',⟨by first|omega|exact Nat.le_refl _⟩,⟨by (with_reducible repeat (first|refine Q5 ?_ _|refine Q7 ?_|refine Q3 ?_ _));exact YX.out⟩,⟨by repeat (first|(with_reducible first|exact HB.out|apply Q2|apply Q1|apply Q4|refine Q8 ?_ Gw.out)|exact HB.out)⟩⟩
  replace c6:=Bool.eq_false_iff.mpr c6
  subst c6
  have H1:(QA.j0 k (Qi.length:Int) false Qi Qu Ql)=some r:=by rw [if_neg (show ¬ (false=true) by decide)] at H;exact H
  clear H
  have H:=H1
  clear H1
  have H':=Q0.mk H
  clear H
  go_wp2_with (first|((with_reducible refine QF (f:=65) rfl ?_);refine YE (some 16) rfl rfl Try.func65 (by kernel_rfl) rfl #[.int .i64 (Qi.length:Int),.int .i64 1,.int .i64 3] rfl (by (try simp only [List.map_toArray,List.map_cons,List.map_nil]);first|done|rfl|(simp only [List.length_drop,List.length_take];rfl)) ?_;(with_reducible refine (Qt.calls (Qi.length:Int) 1 3 false _ A5.out).mono ?_);rintro e w' ⟨rfl,⟨nd,rfl⟩⟩;refine ⟨_,rfl,?_⟩))
  go_meet
  case rel=>exact ⟨_,(false),(by first|rfl|(simp;done)|(simp [*];done)),H',⟨by first|omega|exact Nat.le_refl _⟩,⟨by (with_reducible repeat (first|refine Q5 ?_ _|refine Q7 ?_|refine Q3 ?_ _));exact YX.out⟩,⟨by repeat (first|(with_reducible first|exact HB.out|apply Q2|apply Q1|apply Q4|refine Q8 ?_ Gw.out)|exact HB.out)⟩⟩
 clear HC2
 try clear p2
 try clear c3
 try clear c6
 try clear c7
 try clear c7b0
 try clear c7b1
 try clear c7b2
 try clear GA
 try clear GC
 try clear Ko
 try clear Kg
 try clear Kh
 try clear KB
 try clear KC
 try clear KD
 try clear KE
 try clear GD
 try clear GE
 try clear Kp
 try clear Ki
 try clear Kj
 try clear KF
 try clear KG
 try clear KH
 try clear KI
 obtain ⟨kq,qbd,rfl,HA,HJ1,YX,HB⟩:=hcut
 cases kq with
 | zero=>exact absurd HA.out (by simp [QA.j0])
 | succ kj1 =>
  have H:=HA.out
  clear HA
  simp only [QA.j0] at H
  have H':=Q0.mk H
  clear H
  go_wp2
  go_loopg [4,5] kj1 (fun kq v4 v5 w' => ∃ (U3:Bool) (Ym:Int),v4 = .bool U3∧v5 = .int .i64 Ym∧Q0 (QA.l0 kq (Qi.length:Int) U3 Ym Qi Qu Ql=some r)∧Q0 (kq≤kj1)∧Q0 (w'.heap[Jx]? = some (.cells #[(.slice Ya Qi.length QP),(.slice Y6 Qu.length QR),(.slice Yc Ql.length QS)] 47 (0,0)))∧Q0 (Below w.heap.size w w'))
  case atStart=>exact ⟨(qbd),(0),(by first|rfl|(simp;done)|(simp [*];done)),(by first|rfl|(simp;done)|(simp [*];done)),H',⟨Nat.le_refl _⟩,⟨by (with_reducible repeat (first|refine Q5 ?_ _|refine Q7 ?_|refine Q3 ?_ _));exact YX.out⟩,⟨by repeat (first|(with_reducible first|exact HB.out|apply Q2|apply Q1|apply Q4|refine Q8 ?_ Gw.out)|exact HB.out)⟩⟩
  clear H'
  try clear p2
  try clear c3
  try clear c6
  try clear c7
  try clear c7b0
  try clear c7b1
  try clear c7b2
  try clear GA
  try clear GC
  try clear Ko
  try clear Kg
  try clear Kh
  try clear KB
  try clear KC
  try clear KD
  try clear KE
  try clear GD
  try clear GE
  try clear Kp
  try clear Ki
  try clear Kj
  try clear KF
  try clear KG
  try clear KH
  try clear KI
  try clear p2
  obtain ⟨U3,Ym,rfl,rfl,HA,HK2,YX,HB⟩:=hrel
  cases gk with
  | zero=>exact absurd HA.out (by simp [QA.l0])
  | succ k2 =>
   have H:=HA.out
   clear HA
   simp only [QA.l0] at H
   have qqg:=Q0.mk H
   clear H
   go_upto_region 4 with (fail)
   go_cut [35] (fun v35 wc => ∃ (kq:Nat) (qfw:Bool),v35 = .bool qfw∧Q0 (QA.j2 kq (Qi.length:Int) U3 Ym qfw Qi Qu Ql=some r)∧Q0 (kq≤k2)∧Q0 (wc.heap[Jx]? = some (.cells #[(.slice Ya Qi.length QP),(.slice Y6 Qu.length QR),(.slice Yc Ql.length QS)] 47 (0,0)))∧Q0 (Below w.heap.size w wc))
   case first =>
    have H:=qqg.out;clear qqg
    by_cases c12:U3=true
    ·
     subst c12
     have H1:(QA.j2 k2 (Qi.length:Int) true Ym (decide (Ym<(Qi.length:Int))) Qi Qu Ql)=some r:=by rw [if_pos rfl] at H;exact H
     clear H;have H:=H1;clear H1;have H':=Q0.mk H;clear H
     go_wp2
     go_meet
     case rel=>exact ⟨_,(decide (Ym<(Qi.length:Int))),(by first|rfl|(simp;done)|(simp [*];done)),H',⟨by have:=HJ1.out;have:=HK2.out;first|omega|exact Nat.le_refl _⟩,⟨by (with_reducible repeat (first|refine Q5 ?_ _|refine Q7 ?_|refine Q3 ?_ _));exact YX.out⟩,⟨by repeat (first|(with_reducible first|exact HB.out|apply Q2|apply Q1|apply Q4|refine Q8 ?_ Gw.out)|exact HB.out)⟩⟩
    replace c12:=Bool.eq_false_iff.mpr c12;subst c12
    have H1:(QA.j2 k2 (Qi.length:Int) false Ym false Qi Qu Ql)=some r:=by rw [if_neg (show ¬ (false=true) by decide)] at H;exact H
    clear H;have H:=H1;clear H1;have H':=Q0.mk H;clear H
    go_wp2
    go_meet
    case rel=>exact ⟨_,(false),(by first|rfl|(simp;done)|(simp [*];done)),H',⟨by have:=HJ1.out;have:=HK2.out;first|omega|exact Nat.le_refl _⟩,⟨by (with_reducible repeat (first|refine Q5 ?_ _|refine Q7 ?_|refine Q3 ?_ _));exact YX.out⟩,⟨by repeat (first|(with_reducible first|exact HB.out|apply Q2|apply Q1|apply Q4|refine Q8 ?_ Gw.out)|exact HB.out)⟩⟩
   clear qqg
   try clear c1
   try clear p2
   try clear c3
   try clear c6
   try clear c7
   try clear c7b0
   try clear c7b1
   try clear c7b2
   try clear c12
   try clear GA
   try clear GC
   try clear Ko
   try clear Kg
   try clear Kh
   try clear KB
   try clear KC
   try clear KD
   try clear KE
   try clear GD
   try clear GE
   try clear Kp
   try clear Ki
   try clear Kj
   try clear KF
   try clear KG
   try clear KH
   try clear KI
   try clear p2
   obtain ⟨kq,qfw,rfl,HA,WF,YX,HB⟩:=hcut
   cases kq with
   | zero=>exact absurd HA.out (by simp [QA.j2])
   | succ Xw =>
    have H:=HA.out;clear HA;simp only [QA.j2] at H
    by_cases c13:qfw=true
    ·
     subst c13
     have H1:(if 0≤Ym then (if Ym<(Qi.length:Int) then ((Qy.f Xw ((Qj Qi Ym).f0) ((Qj Qi Ym).f1) ((Qj Qi Ym).f2) ((Qj Qi Ym).f3) ((Qj Qi Ym).f4)).bind fun qkx=>(if qkx=true then (if Ym<(Qu.length:Int) then ((Qt.f (rd Qu Ym) 0 100).bind fun t193=>(QA.l0 Xw (Qi.length:Int) t193 (wrap64 (Ym+1)) Qi Qu Ql)) else (none)) else (QA.l0 Xw (Qi.length:Int) false (wrap64 (Ym+1)) Qi Qu Ql))) else (none)) else (none))=some r:=by rw [if_pos rfl] at H;exact H
     clear H;have H:=H1;clear H1
     by_cases c14:0≤Ym
     ·
      rw [if_pos c14] at H;have c14b0:decide (0≤Ym)=true:=decide_eq_true c14;clear c14
      by_cases c15:Ym<(Qi.length:Int)
      ·
       rw [if_pos c15] at H;have c15b0:decide (Ym<(Qi.length:Int))=true:=decide_eq_true c15;clear c15;replace H:=Option.bind_eq_some_iff.mp H;obtain ⟨qkx,qkO,H⟩:=H;replace H:(if qkx=true then (if Ym<(Qu.length:Int) then ((Qt.f (rd Qu Ym) 0 100).bind fun t193=>(QA.l0 Xw (Qi.length:Int) t193 (wrap64 (Ym+1)) Qi Qu Ql)) else (none)) else (QA.l0 Xw (Qi.length:Int) false (wrap64 (Ym+1)) Qi Qu Ql))=some r:=H;have A16:=Q0.mk qkO;clear qkO
       by_cases c17:qkx=true
       ·
        subst c17
        have H1:(if Ym<(Qu.length:Int) then ((Qt.f (rd Qu Ym) 0 100).bind fun t193=>(QA.l0 Xw (Qi.length:Int) t193 (wrap64 (Ym+1)) Qi Qu Ql)) else (none))=some r:=by rw [if_pos rfl] at H;exact H
        clear H;have H:=H1;clear H1
        by_cases c18:Ym<(Qu.length:Int)
        ·
         rw [if_pos c18] at H;have c18b0:decide (Ym<(Qu.length:Int))=true:=decide_eq_true c18;clear c18;replace H:=Option.bind_eq_some_iff.mp H;obtain ⟨t193,qrx,H⟩:=H;replace H:(QA.l0 Xw (Qi.length:Int) t193 (wrap64 (Ym+1)) Qi Qu Ql)=some r:=H;have A19:=Q0.mk qrx;clear qrx;have H':=Q0.mk H;clear H;have XZ:wc.cell? ⟨Jx,0,none⟩=some (.slice Ya Qi.length QP):=(Q9 YX.out 0).trans rfl;have qaa:wc.cell? ⟨Jx,1,none⟩=some (.slice Y6 Qu.length QR):=(Q9 YX.out 1).trans rfl;have qab:wc.cell? ⟨Jx,2,none⟩=some (.slice Yc Ql.length QS):=(Q9 YX.out 2).trans rfl;have qak:=Qa YX.out 0;have qal:=Qa YX.out 1;have qam:=Qa YX.out 2;have qbP:0≤(Ym:Int):=of_decide_eq_true (by first|(with_reducible assumption)|assumption);have qbQ:Ym<(Qi.length:Int):=of_decide_eq_true (by first|(with_reducible assumption)|assumption);obtain ⟨qiL,qg7,qhi,qg8,qhj,qg9,qhk,e190,Kq,Kr,Ks,Kt,Ku,qay,qau,qaz,qav,qaA,qaw⟩:=qhf JI.out Ym qbP qbQ;cases e190;replace Kq:=(HB.out.cell (World.block_lt_of_cell? w _ Kq)).trans Kq;replace Kr:=(HB.out.cell (World.block_lt_of_cell? w _ Kr)).trans Kr;replace Ks:=(HB.out.cell (World.block_lt_of_cell? w _ Ks)).trans Ks;replace Kt:=(HB.out.cell (World.block_lt_of_cell? w _ Kt)).trans Kt;replace Ku:=(HB.out.cell (World.block_lt_of_cell? w _ Ku)).trans Ku;have qed:=Q0.mk qau;have qea:=Q0.mk qay;clear qau qay;have qee:=Q0.mk qav;have qeb:=Q0.mk qaz;clear qav qaz;have qef:=Q0.mk qaw;have qec:=Q0.mk qaA;clear qaw qaA;replace qbP:=eq_true qbP;replace qbQ:=eq_true qbQ
         go_wp2_with (first|((with_reducible refine QF (f:=76) rfl ?_);refine YE (some 44) rfl rfl Try.func76 (by kernel_rfl) rfl #[.agg #[.slice qg7 ((Qj Qi Ym).f0).length qhi,.slice qg8 ((Qj Qi Ym).f1).length qhj,.slice qg9 ((Qj Qi Ym).f2).length qhk,.int .i64 ((Qj Qi Ym).f3),.int .i64 ((Qj Qi Ym).f4)]] rfl (by (try simp only [List.map_toArray,List.map_cons,List.map_nil]);first|done|rfl|(simp only [List.length_drop,List.length_take];rfl)) ?_;(with_reducible refine (Qy.calls Xw _ _ ((Qj Qi Ym).f0) _ _ ((Qj Qi Ym).f1) _ _ ((Qj Qi Ym).f2) ((Qj Qi Ym).f3) ((Qj Qi Ym).f4) true _ ?side1 ?side2 ?side3 ?side4 ?side5 ?side6 A16.out).mono ?_);(case side1=>repeat (first|exact (Kd.C_below qed.out HB.out)|(with_reducible refine Kd.C_alloc ?_ _)|(with_reducible refine Kd.C_drewN ?_ _)|(with_reducible refine Kd.C_drew ?_)));(case side2=>exact qea.out);(case side3=>repeat (first|exact (Kd.C_below qee.out HB.out)|(with_reducible refine Kd.C_alloc ?_ _)|(with_reducible refine Kd.C_drewN ?_ _)|(with_reducible refine Kd.C_drew ?_)));(case side4=>exact qeb.out);(case side5=>repeat (first|exact (Kd.C_below qef.out HB.out)|(with_reducible refine Kd.C_alloc ?_ _)|(with_reducible refine Kd.C_drewN ?_ _)|(with_reducible refine Kd.C_drew ?_)));(case side6=>exact qec.out);rintro e w21 ⟨rfl,hb⟩;refine ⟨_,rfl,?_⟩;have n0_:=Q0.mk (Qp (g:=Jx) (by (with_reducible repeat (first|refine Q5 ?_ _|refine Q7 ?_|refine Q3 ?_ _));exact YX.out) hb);have n1_:=Q0.mk (Qv (by repeat (first|(with_reducible first|exact HB.out|apply Q2|apply Q1|apply Q4|refine Q8 ?_ Gw.out)|exact HB.out)) hb);clear YX HB;have YX:=n0_;have HB:=n1_;clear n0_ n1_;(try clear hb);(try clear hb2);(try clear hk);(try clear hi);have WY:w21.cell? ⟨Jx,0,none⟩=some (.slice (some qiL) Qi.length QP):=(Q9 YX.out 0).trans rfl;have WZ:w21.cell? ⟨Jx,1,none⟩=some (.slice Y6 Qu.length QR):=(Q9 YX.out 1).trans rfl;have X0:w21.cell? ⟨Jx,2,none⟩=some (.slice Yc Ql.length QS):=(Q9 YX.out 2).trans rfl;have X1:=Qa YX.out 0;have X2:=Qa YX.out 1;have X3:=Qa YX.out 2;have qgz:0≤(Ym:Int):=of_decide_eq_true (by first|(with_reducible assumption)|assumption);have qgB:Ym<(Qu.length:Int):=of_decide_eq_true (by first|(with_reducible assumption)|assumption);obtain ⟨qDq,qBm,UB⟩:=Kd.at_int JU.out Ym qgz qgB;cases qBm;replace UB:=(HB.out.cell (World.block_lt_of_cell? w _ UB)).trans UB;replace qgz:=eq_true qgz;replace qgB:=eq_true qgB)|(go_at_call 65;(with_reducible refine (Qt.calls (rd Qu Ym) 0 100 t193 _ A19.out).mono ?_);rintro e w' ⟨rfl,⟨nd,rfl⟩⟩))
         go_roundg Xw
         case measure=>have:=HJ1.out;have:=HK2.out;have:=WF.out;omega
         case rel=>exact ⟨(t193),(wrap64 (Ym+1)),(by first|rfl|(simp;done)|(simp [*];done)),(by first|rfl|(simp;done)|(simp [*];done)),H',⟨by have:=HJ1.out;have:=HK2.out;have:=WF.out;omega⟩,⟨by (with_reducible repeat (first|refine Q5 ?_ _|refine Q7 ?_|refine Q3 ?_ _));exact YX.out⟩,⟨by repeat (first|(with_reducible first|exact HB.out|apply Q2|apply Q1|apply Q4|refine Q8 ?_ Gw.out)|exact HB.out)⟩⟩
        rw [if_neg c18] at H
        exact absurd H (by simp)
       replace c17:=Bool.eq_false_iff.mpr c17;subst c17
       have H1:(QA.l0 Xw (Qi.length:Int) false (wrap64 (Ym+1)) Qi Qu Ql)=some r:=by rw [if_neg (show ¬ (false=true) by decide)] at H;exact H
       clear H;have H:=H1;clear H1;have H':=Q0.mk H;clear H;have qac:wc.cell? ⟨Jx,0,none⟩=some (.slice Ya Qi.length QP):=(Q9 YX.out 0).trans rfl;have qad:wc.cell? ⟨Jx,1,none⟩=some (.slice Y6 Qu.length QR):=(Q9 YX.out 1).trans rfl;have qae:wc.cell? ⟨Jx,2,none⟩=some (.slice Yc Ql.length QS):=(Q9 YX.out 2).trans rfl;have qan:=Qa YX.out 0;have qao:=Qa YX.out 1;have qap:=Qa YX.out 2;have qbP:0≤(Ym:Int):=of_decide_eq_true (by first|(with_reducible assumption)|assumption);have qbQ:Ym<(Qi.length:Int):=of_decide_eq_true (by first|(with_reducible assumption)|assumption);obtain ⟨qiL,qg7,qhi,qg8,qhj,qg9,qhk,e190,Kq,Kr,Ks,Kt,Ku,qay,qau,qaz,qav,qaA,qaw⟩:=qhf JI.out Ym qbP qbQ;cases e190;replace Kq:=(HB.out.cell (World.block_lt_of_cell? w _ Kq)).trans Kq;replace Kr:=(HB.out.cell (World.block_lt_of_cell? w _ Kr)).trans Kr;replace Ks:=(HB.out.cell (World.block_lt_of_cell? w _ Ks)).trans Ks;replace Kt:=(HB.out.cell (World.block_lt_of_cell? w _ Kt)).trans Kt;replace Ku:=(HB.out.cell (World.block_lt_of_cell? w _ Ku)).trans Ku;have qed:=Q0.mk qau;have qea:=Q0.mk qay;clear qau qay;have qee:=Q0.mk qav;have qeb:=Q0.mk qaz;clear qav qaz;have qef:=Q0.mk qaw;have qec:=Q0.mk qaA;clear qaw qaA;replace qbP:=eq_true qbP;replace qbQ:=eq_true qbQ
       go_wp2_with (first|((with_reducible refine QF (f:=76) rfl ?_);refine YE (some 44) rfl rfl Try.func76 (by kernel_rfl) rfl #[.agg #[.slice qg7 ((Qj Qi Ym).f0).length qhi,.slice qg8 ((Qj Qi Ym).f1).length qhj,.slice qg9 ((Qj Qi Ym).f2).length qhk,.int .i64 ((Qj Qi Ym).f3),.int .i64 ((Qj Qi Ym).f4)]] rfl (by (try simp only [List.map_toArray,List.map_cons,List.map_nil]);first|done|rfl|(simp only [List.length_drop,List.length_take];rfl)) ?_;(with_reducible refine (Qy.calls Xw _ _ ((Qj Qi Ym).f0) _ _ ((Qj Qi Ym).f1) _ _ ((Qj Qi Ym).f2) ((Qj Qi Ym).f3) ((Qj Qi Ym).f4) false _ ?side1 ?side2 ?side3 ?side4 ?side5 ?side6 A16.out).mono ?_);(case side1=>repeat (first|exact (Kd.C_below qed.out HB.out)|(with_reducible refine Kd.C_alloc ?_ _)|(with_reducible refine Kd.C_drewN ?_ _)|(with_reducible refine Kd.C_drew ?_)));(case side2=>exact qea.out);(case side3=>repeat (first|exact (Kd.C_below qee.out HB.out)|(with_reducible refine Kd.C_alloc ?_ _)|(with_reducible refine Kd.C_drewN ?_ _)|(with_reducible refine Kd.C_drew ?_)));(case side4=>exact qeb.out);(case side5=>repeat (first|exact (Kd.C_below qef.out HB.out)|(with_reducible refine Kd.C_alloc ?_ _)|(with_reducible refine Kd.C_drewN ?_ _)|(with_reducible refine Kd.C_drew ?_)));(case side6=>exact qec.out);rintro e w24 ⟨rfl,hb⟩;refine ⟨_,rfl,?_⟩;have n0_:=Q0.mk (Qp (g:=Jx) (by (with_reducible repeat (first|refine Q5 ?_ _|refine Q7 ?_|refine Q3 ?_ _));exact YX.out) hb);have n1_:=Q0.mk (Qv (by repeat (first|(with_reducible first|exact HB.out|apply Q2|apply Q1|apply Q4|refine Q8 ?_ Gw.out)|exact HB.out)) hb);clear YX HB;have YX:=n0_;have HB:=n1_;clear n0_ n1_;(try clear hb);(try clear hb2);(try clear hk);(try clear hi)))
       go_roundg Xw
       case measure=>have:=HJ1.out;have:=HK2.out;have:=WF.out;omega
       case rel=>exact ⟨(false),(wrap64 (Ym+1)),(by first|rfl|(simp;done)|(simp [*];done)),(by first|rfl|(simp;done)|(simp [*];done)),H',⟨by have:=HJ1.out;have:=HK2.out;have:=WF.out;omega⟩,⟨by (with_reducible repeat (first|refine Q5 ?_ _|refine Q7 ?_|refine Q3 ?_ _));exact YX.out⟩,⟨by repeat (first|(with_reducible first|exact HB.out|apply Q2|apply Q1|apply Q4|refine Q8 ?_ Gw.out)|exact HB.out)⟩⟩
      rw [if_neg c15] at H
      exact absurd H (by simp)
     rw [if_neg c14] at H
     exact absurd H (by simp)
    replace c13:=Bool.eq_false_iff.mpr c13;subst c13
    have H1:(QA.l1 Xw (Qi.length:Int) U3 Ql (Ql.length:Int) 0 Qi Qu Ql)=some r:=by rw [if_neg (show ¬ (false=true) by decide)] at H;exact H
    clear H;have H:=H1;clear H1;have H':=Q0.mk H;clear H;have qaf:wc.cell? ⟨Jx,0,none⟩=some (.slice Ya Qi.length QP):=(Q9 YX.out 0).trans rfl;have qag:wc.cell? ⟨Jx,1,none⟩=some (.slice Y6 Qu.length QR):=(Q9 YX.out 1).trans rfl;have qah:wc.cell? ⟨Jx,2,none⟩=some (.slice Yc Ql.length QS):=(Q9 YX.out 2).trans rfl;have qaq:=Qa YX.out 0;have qar:=Qa YX.out 1;have qas:=Qa YX.out 2
    go_wp2
    go_loopg [4,56] Xw (fun kq v4 v56 w' => ∃ (qmK:Bool) (Yz:Int),v4 = .bool qmK∧v56 = .int .i64 Yz∧Q0 (QA.l1 kq (Qi.length:Int) qmK Ql (Ql.length:Int) Yz Qi Qu Ql=some r)∧Q0 (kq≤Xw)∧Q0 (w'.heap[Jx]? = some (.cells #[(.slice Ya Qi.length QP),(.slice Y6 Qu.length QR),(.slice Yc Ql.length QS)] 47 (0,0)))∧Q0 (Below w.heap.size w w'))
    case atStart=>exact ⟨(U3),(0),(by first|rfl|(simp;done)|(simp [*];done)),(by first|rfl|(simp;done)|(simp [*];done)),H',⟨Nat.le_refl _⟩,⟨by (with_reducible repeat (first|refine Q5 ?_ _|refine Q7 ?_|refine Q3 ?_ _));exact YX.out⟩,⟨by repeat (first|(with_reducible first|exact HB.out|apply Q2|apply Q1|apply Q4|refine Q8 ?_ Gw.out)|exact HB.out)⟩⟩
    clear H';(try clear c1);(try clear p1);(try clear q1);(try clear hx1);(try clear p2);(try clear c3);(try clear c6);(try clear p6);(try clear c7);(try clear c7b0);(try clear c7b1);(try clear c7b2);(try clear c12);(try clear c13);(try clear c14);(try clear c14b0);(try clear c15);(try clear c15b0);(try clear c17);(try clear c18);(try clear c18b0);(try clear c19);(try clear p19);(try clear q19);(try clear qoz);(try clear GA);(try clear GC);(try clear Ko);(try clear XZ);(try clear qaa);(try clear qab);(try clear WY);(try clear WZ);(try clear X0);(try clear qac);(try clear qad);(try clear qae);(try clear qaf);(try clear qag);(try clear qah);(try clear Kg);(try clear Kh);(try clear KB);(try clear KC);(try clear KD);(try clear KE);(try clear GD);(try clear GE);(try clear Kp);(try clear qak);(try clear qal);(try clear qam);(try clear X1);(try clear X2);(try clear X3);(try clear qan);(try clear qao);(try clear qap);(try clear qaq);(try clear qar);(try clear qas);(try clear Ki);(try clear Kj);(try clear KF);(try clear KG);(try clear KH);(try clear KI);(try clear Kq);(try clear Kr);(try clear Ks);(try clear Kt);(try clear Ku);(try clear UB);(try clear qbP);(try clear qgz);(try clear p2);(try clear qbQ);(try clear qgB);obtain ⟨qmK,Yz,rfl,rfl,HA,HK4,YX,HB⟩:=hrel
    cases gk with
    | zero=>exact absurd HA.out (by simp [QA.l1])
    | succ k4 =>
     have H:=HA.out;clear HA;simp only [QA.l1] at H
     by_cases c26:Yz<(Ql.length:Int)
     ·
      rw [if_pos c26] at H;have c26b0:decide (Yz<(Ql.length:Int))=true:=decide_eq_true c26;clear c26
      by_cases c27:0≤Yz
      ·
       rw [if_pos c27] at H;have c27b0:decide (0≤Yz)=true:=decide_eq_true c27;clear c27
       by_cases c28:Yz<(Ql.length:Int)
       ·
        rw [if_pos c28] at H;have c28b0:decide (Yz<(Ql.length:Int))=true:=decide_eq_true c28;clear c28;have qqi:=Q0.mk H;clear H;have qhN:0≤(Yz:Int):=of_decide_eq_true (by first|(with_reducible assumption)|assumption);have qh2:Yz<(Ql.length:Int):=of_decide_eq_true (by first|(with_reducible assumption)|assumption);obtain ⟨qdY,qAT,qBa,qBn,Wr,qjh,qi4⟩:=qlr JV.out Yz qhN qh2;cases qBn;replace Wr:=(HB.out.cell (World.block_lt_of_cell? w _ Wr)).trans Wr;have qmY:=Q0.mk qi4;have qva:=Q0.mk qjh;clear qi4 qjh;replace qhN:=eq_true qhN;replace qh2:=eq_true qh2
        go_upto_region 10 with (fail)
        go_cut [4] (fun v4 wc => ∃ (kq:Nat) (qjT:Bool),v4 = .bool qjT∧Q0 (QA.j4 kq (Qi.length:Int) qjT (QO Ql Yz) Ql (Ql.length:Int) Yz Qi Qu Ql=some r)∧Q0 (kq≤k4)∧Q0 (wc.heap[Jx]? = some (.cells #[(.slice Ya Qi.length QP),(.slice Y6 Qu.length QR),(.slice (some qdY) Ql.length QS)] 47 (0,0)))∧Q0 (Below w.heap.size w wc))
        case first =>
         have H:=qqi.out;clear qqi
         by_cases c30:qmK=true
         ·
          subst c30
          have H1:(QA.j4 k4 (Qi.length:Int) (((QO Ql Yz).length:Int)==(Qi.length:Int)) (QO Ql Yz) Ql (Ql.length:Int) Yz Qi Qu Ql)=some r:=by rw [if_pos rfl] at H;exact H
          clear H;have H:=H1;clear H1;have H':=Q0.mk H;clear H
          go_wp2
          go_meet
          case rel=>exact ⟨_,((((QO Ql Yz).length:Int)==(Qi.length:Int))),(by first|rfl|(simp;done)|(simp [*];done)),H',⟨by have:=HJ1.out;have:=HK2.out;have:=WF.out;have:=HK4.out;first|omega|exact Nat.le_refl _⟩,⟨by (with_reducible repeat (first|refine Q5 ?_ _|refine Q7 ?_|refine Q3 ?_ _));exact YX.out⟩,⟨by repeat (first|(with_reducible first|exact HB.out|apply Q2|apply Q1|apply Q4|refine Q8 ?_ Gw.out)|exact HB.out)⟩⟩
         replace c30:=Bool.eq_false_iff.mpr c30;subst c30
         have H1:(QA.j4 k4 (Qi.length:Int) false (QO Ql Yz) Ql (Ql.length:Int) Yz Qi Qu Ql)=some r:=by rw [if_neg (show ¬ (false=true) by decide)] at H;exact H
         clear H;have H:=H1;clear H1;have H':=Q0.mk H;clear H
         go_wp2
         go_meet
         case rel=>exact ⟨_,(false),(by first|rfl|(simp;done)|(simp [*];done)),H',⟨by have:=HJ1.out;have:=HK2.out;have:=WF.out;have:=HK4.out;first|omega|exact Nat.le_refl _⟩,⟨by (with_reducible repeat (first|refine Q5 ?_ _|refine Q7 ?_|refine Q3 ?_ _));exact YX.out⟩,⟨by repeat (first|(with_reducible first|exact HB.out|apply Q2|apply Q1|apply Q4|refine Q8 ?_ Gw.out)|exact HB.out)⟩⟩
        clear qqi;(try clear c1);(try clear p1);(try clear q1);(try clear hx1);(try clear c2);(try clear p2);(try clear c3);(try clear c6);(try clear p6);(try clear c7);(try clear c7b0);(try clear c7b1);(try clear c7b2);(try clear c12);(try clear c13);(try clear c14);(try clear c14b0);(try clear c15);(try clear c15b0);(try clear c17);(try clear c18);(try clear c18b0);(try clear c19);(try clear p19);(try clear q19);(try clear qoz);(try clear c26);(try clear c26b0);(try clear c27);(try clear c27b0);(try clear c28);(try clear c28b0);(try clear c30);(try clear GA);(try clear GC);(try clear Ko);(try clear XZ);(try clear qaa);(try clear qab);(try clear WY);(try clear WZ);(try clear X0);(try clear qac);(try clear qad);(try clear qae);(try clear qaf);(try clear qag);(try clear qah);(try clear Kg);(try clear Kh);(try clear KB);(try clear KC);(try clear KD);(try clear KE);(try clear GD);(try clear GE);(try clear Kp);(try clear qak);(try clear qal);(try clear qam);(try clear X1);(try clear X2);(try clear X3);(try clear qan);(try clear qao);(try clear qap);(try clear qaq);(try clear qar);(try clear qas);(try clear Ki);(try clear Kj);(try clear KF);(try clear KG);(try clear KH);(try clear KI);(try clear Kq);(try clear Kr);(try clear Ks);(try clear Kt);(try clear Ku);(try clear UB);(try clear Wr);(try clear p1);(try clear p19);(try clear qbP);(try clear qgz);(try clear qhN);(try clear p2);(try clear p6);(try clear q1);(try clear q19);(try clear qbQ);(try clear qgB);(try clear qh2);obtain ⟨kq,qjT,rfl,HA,qcL,YX,HB⟩:=hcut
        cases kq with
        | zero=>exact absurd HA.out (by simp [QA.j4])
        | succ qu3 =>
         have H:=HA.out;clear HA;simp only [QA.j4] at H;have H':=Q0.mk H;clear H
         go_wp2
         go_loopg [4,69] qu3 (fun kq v4 v69 w' => ∃ (qmL:Bool) (Zu:Int),v4 = .bool qmL∧v69 = .int .i64 Zu∧Q0 (QA.l2 kq (Qi.length:Int) qmL Ql (Ql.length:Int) Yz (QO Ql Yz) ((QO Ql Yz).length:Int) Zu Qi Qu Ql=some r)∧Q0 (kq≤qu3)∧Q0 (w'.heap[Jx]? = some (.cells #[(.slice Ya Qi.length QP),(.slice Y6 Qu.length QR),(.slice (some qdY) Ql.length QS)] 47 (0,0)))∧Q0 (Below w.heap.size w w'))
         case atStart=>exact ⟨(qjT),(0),(by first|rfl|(simp;done)|(simp [*];done)),(by first|rfl|(simp;done)|(simp [*];done)),H',⟨Nat.le_refl _⟩,⟨by (with_reducible repeat (first|refine Q5 ?_ _|refine Q7 ?_|refine Q3 ?_ _));exact YX.out⟩,⟨by repeat (first|(with_reducible first|exact HB.out|apply Q2|apply Q1|apply Q4|refine Q8 ?_ Gw.out)|exact HB.out)⟩⟩
         clear H';(try clear c1);(try clear p1);(try clear q1);(try clear hx1);(try clear c2);(try clear p2);(try clear c3);(try clear c6);(try clear p6);(try clear c7);(try clear c7b0);(try clear c7b1);(try clear c7b2);(try clear c12);(try clear c13);(try clear c14);(try clear c14b0);(try clear c15);(try clear c15b0);(try clear c17);(try clear c18);(try clear c18b0);(try clear c19);(try clear p19);(try clear q19);(try clear qoz);(try clear c26);(try clear c26b0);(try clear c27);(try clear c27b0);(try clear c28);(try clear c28b0);(try clear c30);(try clear GA);(try clear GC);(try clear Ko);(try clear XZ);(try clear qaa);(try clear qab);(try clear WY);(try clear WZ);(try clear X0);(try clear qac);(try clear qad);(try clear qae);(try clear qaf);(try clear qag);(try clear qah);(try clear Kg);(try clear Kh);(try clear KB);(try clear KC);(try clear KD);(try clear KE);(try clear GD);(try clear GE);(try clear Kp);(try clear qak);(try clear qal);(try clear qam);(try clear X1);(try clear X2);(try clear X3);(try clear qan);(try clear qao);(try clear qap);(try clear qaq);(try clear qar);(try clear qas);(try clear Ki);(try clear Kj);(try clear KF);(try clear KG);(try clear KH);(try clear KI);(try clear Kq);(try clear Kr);(try clear Ks);(try clear Kt);(try clear Ku);(try clear UB);(try clear Wr);(try clear p1);(try clear p19);(try clear qbP);(try clear qgz);(try clear qhN);(try clear p2);(try clear p6);(try clear q1);(try clear q19);(try clear qbQ);(try clear qgB);(try clear qh2);obtain ⟨qmL,Zu,rfl,rfl,HA,HK6,YX,HB⟩:=hrel
         cases gk with
         | zero=>exact absurd HA.out (by simp [QA.l2])
         | succ k6 =>
          have H:=HA.out;clear HA;simp only [QA.l2] at H
          by_cases c31:Zu<((QO Ql Yz).length:Int)
          ·
           rw [if_pos c31] at H;have c31b0:decide (Zu<((QO Ql Yz).length:Int))=true:=decide_eq_true c31;clear c31
           by_cases c32:0≤Zu
           ·
            rw [if_pos c32] at H;have c32b0:decide (0≤Zu)=true:=decide_eq_true c32;clear c32
            by_cases c33:Zu<((QO Ql Yz).length:Int)
            ·
             rw [if_pos c33] at H;have c33b0:decide (Zu<((QO Ql Yz).length:Int))=true:=decide_eq_true c33;clear c33;have qqk:=Q0.mk H;clear H;have qmh:0≤(Zu:Int):=of_decide_eq_true (by first|(with_reducible assumption)|assumption);have qmo:Zu<((QO Ql Yz).length:Int):=of_decide_eq_true (by first|(with_reducible assumption)|assumption);obtain ⟨qDr,qAU,qBb,e195,qaF,qji,qi5⟩:=qiN qmY.out Zu qmh qmo;cases e195;replace qaF:=(HB.out.cell (World.block_lt_of_cell? w _ qaF)).trans qaF;have qiG:=Q0.mk qi5;have qvb:=Q0.mk qji;clear qi5 qji;replace qmh:=eq_true qmh;replace qmo:=eq_true qmo
             go_upto_region 14 with (fail)
             go_cut [4] (fun v4 wc => ∃ (kq:Nat) (qjU:Bool),v4 = .bool qjU∧Q0 (QA.j6 kq (Qi.length:Int) qjU (Yg (QO Ql Yz) Zu) Ql (Ql.length:Int) Yz (QO Ql Yz) ((QO Ql Yz).length:Int) Zu Qi Qu Ql=some r)∧Q0 (kq≤k6)∧Q0 (wc.heap[Jx]? = some (.cells #[(.slice Ya Qi.length QP),(.slice Y6 Qu.length QR),(.slice (some qdY) Ql.length QS)] 47 (0,0)))∧Q0 (Below w.heap.size w wc))
             case first =>
              have H:=qqk.out;clear qqk
              by_cases c35:qmL=true
              ·
               subst c35
               have H1:((Qt.f ((Yg (QO Ql Yz) Zu).length:Int) 1 10).bind fun t196=>(if t196=true then (if 0<(Ql.length:Int) then (if 0<((QO Ql 0).length:Int) then (QA.j6 k6 (Qi.length:Int) (((Yg (QO Ql Yz) Zu).length:Int)==((Yg (QO Ql 0) 0).length:Int)) (Yg (QO Ql Yz) Zu) Ql (Ql.length:Int) Yz (QO Ql Yz) ((QO Ql Yz).length:Int) Zu Qi Qu Ql) else (none)) else (none)) else (QA.j6 k6 (Qi.length:Int) false (Yg (QO Ql Yz) Zu) Ql (Ql.length:Int) Yz (QO Ql Yz) ((QO Ql Yz).length:Int) Zu Qi Qu Ql)))=some r:=by rw [if_pos rfl] at H;exact H
               clear H;have H:=H1;clear H1;replace H:=Option.bind_eq_some_iff.mp H;obtain ⟨t196,qrG,H⟩:=H;replace H:(if t196=true then (if 0<(Ql.length:Int) then (if 0<((QO Ql 0).length:Int) then (QA.j6 k6 (Qi.length:Int) (((Yg (QO Ql Yz) Zu).length:Int)==((Yg (QO Ql 0) 0).length:Int)) (Yg (QO Ql Yz) Zu) Ql (Ql.length:Int) Yz (QO Ql Yz) ((QO Ql Yz).length:Int) Zu Qi Qu Ql) else (none)) else (none)) else (QA.j6 k6 (Qi.length:Int) false (Yg (QO Ql Yz) Zu) Ql (Ql.length:Int) Yz (QO Ql Yz) ((QO Ql Yz).length:Int) Zu Qi Qu Ql))=some r:=H;have A36:=Q0.mk qrG;clear qrG
               by_cases c37:t196=true
               ·
                subst c37
                have H1:(if 0<(Ql.length:Int) then (if 0<((QO Ql 0).length:Int) then (QA.j6 k6 (Qi.length:Int) (((Yg (QO Ql Yz) Zu).length:Int)==((Yg (QO Ql 0) 0).length:Int)) (Yg (QO Ql Yz) Zu) Ql (Ql.length:Int) Yz (QO Ql Yz) ((QO Ql Yz).length:Int) Zu Qi Qu Ql) else (none)) else (none))=some r:=by rw [if_pos rfl] at H;exact H
                clear H;have H:=H1;clear H1
                by_cases c38:0<(Ql.length:Int)
                ·
                 rw [if_pos c38] at H;have c38b0:decide (0<(Ql.length:Int))=true:=decide_eq_true c38;have c38b1:decide (0<Ql.length)=true:=decide_eq_true (by omega);clear c38
                 (first|rw [c38b0]|(simp only [Qk,Qm];rw [c38b0])|skip)
                 by_cases c39:0<((QO Ql 0).length:Int)
                 ·
                  rw [if_pos c39] at H;have c39b0:decide (0<((QO Ql 0).length:Int))=true:=decide_eq_true c39;have c39b1:decide (0<(QO Ql 0).length)=true:=decide_eq_true (by omega);clear c39;have H':=Q0.mk H;clear H
                  go_wp2_with (first|(go_at_call 65;(with_reducible refine (Qt.calls ((Yg (QO Ql Yz) Zu).length:Int) 1 10 true _ A36.out).mono ?_);rintro e w' ⟨rfl,⟨nd,rfl⟩⟩;have qb7:wr.cell? ⟨Jx,0,none⟩=some (.slice Ya Qi.length QP):=(Q9 YX.out 0).trans rfl;have qb8:wr.cell? ⟨Jx,1,none⟩=some (.slice Y6 Qu.length QR):=(Q9 YX.out 1).trans rfl;have qb9:wr.cell? ⟨Jx,2,none⟩=some (.slice (some qdY) Ql.length QS):=(Q9 YX.out 2).trans rfl;have qci:=Qa YX.out 0;have qcj:=Qa YX.out 1;have qck:=Qa YX.out 2;have qmi:0≤(0:Int):=(by omega);have qmp:0<(Ql.length:Int):=of_decide_eq_true (by first|(with_reducible assumption)|assumption);obtain ⟨qsy,qAV,qBc,e197,Ws,qjj,qi6⟩:=qlr JV.out 0 qmi qmp;obtain rfl:qdY=qsy:=(by injection e197);have qFp:(0<Ql.length)=True:=eq_true (by omega);(try rw [show ((0:Int)).toNat=0 from rfl] at Ws);(try rw [Addr.add_zero'] at Ws);replace Ws:=(HB.out.cell (World.block_lt_of_cell? w _ Ws)).trans Ws;have qmZ:=Q0.mk qi6;have qvc:=Q0.mk qjj;clear qi6 qjj;replace qmi:=eq_true qmi;replace qmp:=eq_true qmp;have qmj:0≤(0:Int):=(by omega);have qmq:0<((QO Ql 0).length:Int):=of_decide_eq_true (by first|(with_reducible assumption)|assumption);obtain ⟨qDs,qAW,qBd,qBo,Wt,qjk,qi7⟩:=qiN qmZ.out 0 qmj qmq;cases qBo;have qFq:(0<(QO Ql 0).length)=True:=eq_true (by omega);(try rw [show ((0:Int)).toNat=0 from rfl] at Wt);(try rw [Addr.add_zero'] at Wt);replace Wt:=(HB.out.cell (World.block_lt_of_cell? w _ Wt)).trans Wt;have qvj:=Q0.mk qi7;have qvd:=Q0.mk qjk;clear qi7 qjk;replace qmj:=eq_true qmj;replace qmq:=eq_true qmq))
                  go_meet
                  case rel=>exact ⟨_,((((Yg (QO Ql Yz) Zu).length:Int)==((Yg (QO Ql 0) 0).length:Int))),(by first|rfl|(simp;done)|(simp [*];done)),H',⟨by have:=HJ1.out;have:=HK2.out;have:=WF.out;have:=HK4.out;have:=qcL.out;have:=HK6.out;first|omega|exact Nat.le_refl _⟩,⟨by (with_reducible repeat (first|refine Q5 ?_ _|refine Q7 ?_|refine Q3 ?_ _));exact YX.out⟩,⟨by repeat (first|(with_reducible first|exact HB.out|apply Q2|apply Q1|apply Q4|refine Q8 ?_ Gw.out)|exact HB.out)⟩⟩
                 rw [if_neg c39] at H
                 exact absurd H (by simp)
                rw [if_neg c38] at H
                exact absurd H (by simp)
               replace c37:=Bool.eq_false_iff.mpr c37;subst c37
               have H1:(QA.j6 k6 (Qi.length:Int) false (Yg (QO Ql Yz) Zu) Ql (Ql.length:Int) Yz (QO Ql Yz) ((QO Ql Yz).length:Int) Zu Qi Qu Ql)=some r:=by rw [if_neg (show ¬ (false=true) by decide)] at H;exact H
               clear H;have H:=H1;clear H1;have H':=Q0.mk H;clear H
               go_wp2_with (first|(go_at_call 65;(with_reducible refine (Qt.calls ((Yg (QO Ql Yz) Zu).length:Int) 1 10 false _ A36.out).mono ?_);rintro e w' ⟨rfl,⟨nd,rfl⟩⟩))
               go_meet
               case rel=>exact ⟨_,(false),(by first|rfl|(simp;done)|(simp [*];done)),H',⟨by have:=HJ1.out;have:=HK2.out;have:=WF.out;have:=HK4.out;have:=qcL.out;have:=HK6.out;first|omega|exact Nat.le_refl _⟩,⟨by (with_reducible repeat (first|refine Q5 ?_ _|refine Q7 ?_|refine Q3 ?_ _));exact YX.out⟩,⟨by repeat (first|(with_reducible first|exact HB.out|apply Q2|apply Q1|apply Q4|refine Q8 ?_ Gw.out)|exact HB.out)⟩⟩
              replace c35:=Bool.eq_false_iff.mpr c35;subst c35
              have H1:(QA.j6 k6 (Qi.length:Int) false (Yg (QO Ql Yz) Zu) Ql (Ql.length:Int) Yz (QO Ql Yz) ((QO Ql Yz).length:Int) Zu Qi Qu Ql)=some r:=by rw [if_neg (show ¬ (false=true) by decide)] at H;exact H
              clear H;have H:=H1;clear H1;have H':=Q0.mk H;clear H
              go_wp2
              go_meet
              case rel=>exact ⟨_,(false),(by first|rfl|(simp;done)|(simp [*];done)),H',⟨by have:=HJ1.out;have:=HK2.out;have:=WF.out;have:=HK4.out;have:=qcL.out;have:=HK6.out;first|omega|exact Nat.le_refl _⟩,⟨by (with_reducible repeat (first|refine Q5 ?_ _|refine Q7 ?_|refine Q3 ?_ _));exact YX.out⟩,⟨by repeat (first|(with_reducible first|exact HB.out|apply Q2|apply Q1|apply Q4|refine Q8 ?_ Gw.out)|exact HB.out)⟩⟩
             clear qqk;(try clear c1);(try clear p1);(try clear q1);(try clear hx1);(try clear qi1);(try clear c2);(try clear p2);(try clear c3);(try clear c6);(try clear p6);(try clear c7);(try clear c7b0);(try clear c7b1);(try clear c7b2);(try clear c12);(try clear c13);(try clear c14);(try clear c14b0);(try clear c15);(try clear c15b0);(try clear c17);(try clear c18);(try clear c18b0);(try clear c19);(try clear p19);(try clear q19);(try clear qoz);(try clear qCF);(try clear c26);(try clear c26b0);(try clear c27);(try clear c27b0);(try clear c28);(try clear c28b0);(try clear c30);(try clear c31);(try clear c31b0);(try clear c32);(try clear c32b0);(try clear c33);(try clear c33b0);(try clear c35);(try clear c37);(try clear c38);(try clear c38b0);(try clear c38b1);(try clear c39);(try clear c39b0);(try clear c39b1);(try clear GA);(try clear GC);(try clear Ko);(try clear XZ);(try clear qaa);(try clear qab);(try clear WY);(try clear WZ);(try clear X0);(try clear qac);(try clear qad);(try clear qae);(try clear qaf);(try clear qag);(try clear qah);(try clear qb7);(try clear qb8);(try clear qb9);(try clear Kg);(try clear Kh);(try clear KB);(try clear KC);(try clear KD);(try clear KE);(try clear GD);(try clear GE);(try clear Kp);(try clear qak);(try clear qal);(try clear qam);(try clear X1);(try clear X2);(try clear X3);(try clear qan);(try clear qao);(try clear qap);(try clear qaq);(try clear qar);(try clear qas);(try clear qci);(try clear qcj);(try clear qck);(try clear Ki);(try clear Kj);(try clear KF);(try clear KG);(try clear KH);(try clear KI);(try clear Kq);(try clear Kr);(try clear Ks);(try clear Kt);(try clear Ku);(try clear UB);(try clear Wr);(try clear qaF);(try clear Ws);(try clear Wt);(try clear p1);(try clear p19);(try clear qbP);(try clear qgz);(try clear qhN);(try clear qmh);(try clear qmi);(try clear qmj);(try clear p2);(try clear p6);(try clear q1);(try clear q19);(try clear qbQ);(try clear qgB);(try clear qh2);(try clear qmo);(try clear qmp);(try clear qmq);obtain ⟨kq,qjU,rfl,HA,qj0,YX,HB⟩:=hcut
             cases kq with
             | zero=>exact absurd HA.out (by simp [QA.j6])
             | succ qu4 =>
              have H:=HA.out;clear HA;simp only [QA.j6] at H;have H':=Q0.mk H;clear H
              go_wp2
              go_loopg [4,93] qu4 (fun kq v4 v93 w' => ∃ (qmM:Bool) (GV:Int),v4 = .bool qmM∧v93 = .int .i64 GV∧Q0 (QA.l3 kq (Qi.length:Int) qmM Ql (Ql.length:Int) Yz (QO Ql Yz) ((QO Ql Yz).length:Int) Zu (Yg (QO Ql Yz) Zu) ((Yg (QO Ql Yz) Zu).length:Int) GV Qi Qu Ql=some r)∧Q0 (kq≤qu4)∧Q0 (w'.heap[Jx]? = some (.cells #[(.slice Ya Qi.length QP),(.slice Y6 Qu.length QR),(.slice (some qdY) Ql.length QS)] 47 (0,0)))∧Q0 (Below w.heap.size w w'))
              case atStart=>exact ⟨(qjU),(0),(by first|rfl|(simp;done)|(simp [*];done)),(by first|rfl|(simp;done)|(simp [*];done)),H',⟨Nat.le_refl _⟩,⟨by (with_reducible repeat (first|refine Q5 ?_ _|refine Q7 ?_|refine Q3 ?_ _));exact YX.out⟩,⟨by repeat (first|(with_reducible first|exact HB.out|apply Q2|apply Q1|apply Q4|refine Q8 ?_ Gw.out)|exact HB.out)⟩⟩
              clear H';(try clear c1);(try clear p1);(try clear q1);(try clear hx1);(try clear qi1);(try clear c2);(try clear p2);(try clear c3);(try clear c6);(try clear p6);(try clear c7);(try clear c7b0);(try clear c7b1);(try clear c7b2);(try clear c12);(try clear c13);(try clear c14);(try clear c14b0);(try clear c15);(try clear c15b0);(try clear c17);(try clear c18);(try clear c18b0);(try clear c19);(try clear p19);(try clear q19);(try clear qoz);(try clear qCF);(try clear c26);(try clear c26b0);(try clear c27);(try clear c27b0);(try clear c28);(try clear c28b0);(try clear c30);(try clear c31);(try clear c31b0);(try clear c32);(try clear c32b0);(try clear c33);(try clear c33b0);(try clear c35);(try clear c37);(try clear c38);(try clear c38b0);(try clear c38b1);(try clear c39);(try clear c39b0);(try clear c39b1);(try clear GA);(try clear GC);(try clear Ko);(try clear XZ);(try clear qaa);(try clear qab);(try clear WY);(try clear WZ);(try clear X0);(try clear qac);(try clear qad);(try clear qae);(try clear qaf);(try clear qag);(try clear qah);(try clear qb7);(try clear qb8);(try clear qb9);(try clear Kg);(try clear Kh);(try clear KB);(try clear KC);(try clear KD);(try clear KE);(try clear GD);(try clear GE);(try clear Kp);(try clear qak);(try clear qal);(try clear qam);(try clear X1);(try clear X2);(try clear X3);(try clear qan);(try clear qao);(try clear qap);(try clear qaq);(try clear qar);(try clear qas);(try clear qci);(try clear qcj);(try clear qck);(try clear Ki);(try clear Kj);(try clear KF);(try clear KG);(try clear KH);(try clear KI);(try clear Kq);(try clear Kr);(try clear Ks);(try clear Kt);(try clear Ku);(try clear UB);(try clear Wr);(try clear qaF);(try clear Ws);(try clear Wt);(try clear p1);(try clear p19);(try clear qbP);(try clear qgz);(try clear qhN);(try clear qmh);(try clear qmi);(try clear qmj);(try clear p2);(try clear p6);(try clear q1);(try clear q19);(try clear qbQ);(try clear qgB);(try clear qh2);(try clear qmo);(try clear qmp);(try clear qmq);obtain ⟨qmM,GV,rfl,rfl,HA,HK8,YX,HB⟩:=hrel
              cases gk with
              | zero=>exact absurd HA.out (by simp [QA.l3])
              | succ k8 =>
               have H:=HA.out;clear HA;simp only [QA.l3] at H
               by_cases c41:GV<((Yg (QO Ql Yz) Zu).length:Int)
               ·
                rw [if_pos c41] at H;have c41b0:decide (GV<((Yg (QO Ql Yz) Zu).length:Int))=true:=decide_eq_true c41;clear c41
                by_cases c42:0≤GV
                ·
                 rw [if_pos c42] at H;have c42b0:decide (0≤GV)=true:=decide_eq_true c42;clear c42
                 by_cases c43:GV<((Yg (QO Ql Yz) Zu).length:Int)
                 ·
                  rw [if_pos c43] at H;have c43b0:decide (GV<((Yg (QO Ql Yz) Zu).length:Int))=true:=decide_eq_true c43;clear c43
                  by_cases c44:qmM=true
                  ·
                   subst c44
                   have H1:((Qt.f (rd (Yg (QO Ql Yz) Zu) GV) 0 100000).bind fun qie=>(QA.l3 k8 (Qi.length:Int) qie Ql (Ql.length:Int) Yz (QO Ql Yz) ((QO Ql Yz).length:Int) Zu (Yg (QO Ql Yz) Zu) ((Yg (QO Ql Yz) Zu).length:Int) (wrap64 (GV+1)) Qi Qu Ql))=some r:=by rw [if_pos rfl] at H;exact H
                   clear H;have H:=H1;clear H1;replace H:=Option.bind_eq_some_iff.mp H;obtain ⟨qie,qkT,H⟩:=H;replace H:(QA.l3 k8 (Qi.length:Int) qie Ql (Ql.length:Int) Yz (QO Ql Yz) ((QO Ql Yz).length:Int) Zu (Yg (QO Ql Yz) Zu) ((Yg (QO Ql Yz) Zu).length:Int) (wrap64 (GV+1)) Qi Qu Ql)=some r:=H;have A45:=Q0.mk qkT;clear qkT;have H':=Q0.mk H;clear H;have qhO:0≤(GV:Int):=of_decide_eq_true (by first|(with_reducible assumption)|assumption);have qh3:GV<((Yg (QO Ql Yz) Zu).length:Int):=of_decide_eq_true (by first|(with_reducible assumption)|assumption);obtain ⟨qsz,e199,Wu⟩:=Kd.at_int qiG.out GV qhO qh3;cases e199;replace Wu:=(HB.out.cell (World.block_lt_of_cell? w _ Wu)).trans Wu;replace qhO:=eq_true qhO;replace qh3:=eq_true qh3
                   go_wp2_with (first|(go_at_call 65;(with_reducible refine (Qt.calls (rd (Yg (QO Ql Yz) Zu) GV) 0 100000 qie _ A45.out).mono ?_);rintro e w' ⟨rfl,⟨nd,rfl⟩⟩))
                   go_roundg k8
                   case measure=>have:=HJ1.out;have:=HK2.out;have:=WF.out;have:=HK4.out;have:=qcL.out;have:=HK6.out;have:=qj0.out;have:=HK8.out;omega
                   case rel=>exact ⟨(qie),(wrap64 (GV+1)),(by first|rfl|(simp;done)|(simp [*];done)),(by first|rfl|(simp;done)|(simp [*];done)),H',⟨by have:=HJ1.out;have:=HK2.out;have:=WF.out;have:=HK4.out;have:=qcL.out;have:=HK6.out;have:=qj0.out;have:=HK8.out;omega⟩,⟨by (with_reducible repeat (first|refine Q5 ?_ _|refine Q7 ?_|refine Q3 ?_ _));exact YX.out⟩,⟨by repeat (first|(with_reducible first|exact HB.out|apply Q2|apply Q1|apply Q4|refine Q8 ?_ Gw.out)|exact HB.out)⟩⟩
                  replace c44:=Bool.eq_false_iff.mpr c44;subst c44
                  have H1:(QA.l3 k8 (Qi.length:Int) false Ql (Ql.length:Int) Yz (QO Ql Yz) ((QO Ql Yz).length:Int) Zu (Yg (QO Ql Yz) Zu) ((Yg (QO Ql Yz) Zu).length:Int) (wrap64 (GV+1)) Qi Qu Ql)=some r:=by rw [if_neg (show ¬ (false=true) by decide)] at H;exact H
                  clear H;have H:=H1;clear H1;have H':=Q0.mk H;clear H;have qhO:0≤(GV:Int):=of_decide_eq_true (by first|(with_reducible assumption)|assumption);have qh3:GV<((Yg (QO Ql Yz) Zu).length:Int):=of_decide_eq_true (by first|(with_reducible assumption)|assumption);obtain ⟨qsz,e199,Wu⟩:=Kd.at_int qiG.out GV qhO qh3;cases e199;replace Wu:=(HB.out.cell (World.block_lt_of_cell? w _ Wu)).trans Wu;replace qhO:=eq_true qhO;replace qh3:=eq_true qh3
                  go_wp2
                  go_roundg k8
                  case measure=>have:=HJ1.out;have:=HK2.out;have:=WF.out;have:=HK4.out;have:=qcL.out;have:=HK6.out;have:=qj0.out;have:=HK8.out;omega
                  case rel=>exact ⟨(false),(wrap64 (GV+1)),(by first|rfl|(simp;done)|(simp [*];done)),(by first|rfl|(simp;done)|(simp [*];done)),H',⟨by have:=HJ1.out;have:=HK2.out;have:=WF.out;have:=HK4.out;have:=qcL.out;have:=HK6.out;have:=qj0.out;have:=HK8.out;omega⟩,⟨by (with_reducible repeat (first|refine Q5 ?_ _|refine Q7 ?_|refine Q3 ?_ _));exact YX.out⟩,⟨by repeat (first|(with_reducible first|exact HB.out|apply Q2|apply Q1|apply Q4|refine Q8 ?_ Gw.out)|exact HB.out)⟩⟩
                 rw [if_neg c43] at H
                 exact absurd H (by simp)
                rw [if_neg c42] at H
                exact absurd H (by simp)
               rw [if_neg c41] at H;have c41b0:decide (GV<((Yg (QO Ql Yz) Zu).length:Int))=false:=decide_eq_false c41;clear c41;have H':=Q0.mk H;clear H
               go_wp2
               go_roundg k8
               case measure=>have:=HJ1.out;have:=HK2.out;have:=WF.out;have:=HK4.out;have:=qcL.out;have:=HK6.out;have:=qj0.out;have:=HK8.out;omega
               case rel=>exact ⟨(qmM),(wrap64 (Zu+1)),(by first|rfl|(simp;done)|(simp [*];done)),(by first|rfl|(simp;done)|(simp [*];done)),H',⟨by have:=HJ1.out;have:=HK2.out;have:=WF.out;have:=HK4.out;have:=qcL.out;have:=HK6.out;have:=qj0.out;have:=HK8.out;omega⟩,⟨by (with_reducible repeat (first|refine Q5 ?_ _|refine Q7 ?_|refine Q3 ?_ _));exact YX.out⟩,⟨by repeat (first|(with_reducible first|exact HB.out|apply Q2|apply Q1|apply Q4|refine Q8 ?_ Gw.out)|exact HB.out)⟩⟩
            rw [if_neg c33] at H
            exact absurd H (by simp)
           rw [if_neg c32] at H
           exact absurd H (by simp)
          rw [if_neg c31] at H;have c31b0:decide (Zu<((QO Ql Yz).length:Int))=false:=decide_eq_false c31;clear c31;have H':=Q0.mk H;clear H
          go_wp2
          go_roundg k6
          case measure=>have:=HJ1.out;have:=HK2.out;have:=WF.out;have:=HK4.out;have:=qcL.out;have:=HK6.out;omega
          case rel=>exact ⟨(qmL),(wrap64 (Yz+1)),(by first|rfl|(simp;done)|(simp [*];done)),(by first|rfl|(simp;done)|(simp [*];done)),H',⟨by have:=HJ1.out;have:=HK2.out;have:=WF.out;have:=HK4.out;have:=qcL.out;have:=HK6.out;omega⟩,⟨by (with_reducible repeat (first|refine Q5 ?_ _|refine Q7 ?_|refine Q3 ?_ _));exact YX.out⟩,⟨by repeat (first|(with_reducible first|exact HB.out|apply Q2|apply Q1|apply Q4|refine Q8 ?_ Gw.out)|exact HB.out)⟩⟩
       rw [if_neg c28] at H
       exact absurd H (by simp)
      rw [if_neg c27] at H
      exact absurd H (by simp)
     rw [if_neg c26] at H;have c26b0:decide (Yz<(Ql.length:Int))=false:=decide_eq_false c26;clear c26
     by_cases c46:qmK=true
     ·
      subst c46
      have H1:(some 0)=some r:=by rw [if_pos rfl] at H;exact H
      clear H;have H:=H1;clear H1;obtain rfl:=Option.some.inj H
      go_wp2
      go_ret
      exact ⟨by first|rfl|(simp [QC,QD]<;>rfl)|(simp [*,QC,QD]<;>rfl),by repeat (first|(with_reducible first|exact HB.out|apply Q2|apply Q1|apply Q4|refine Q8 ?_ Gw.out)|exact HB.out)⟩
     replace c46:=Bool.eq_false_iff.mpr c46;subst c46
     have H1:(some 93)=some r:=by rw [if_neg (show ¬ (false=true) by decide)] at H;exact H
     clear H;have H:=H1;clear H1;obtain rfl:=Option.some.inj H
     go_wp2
     go_ret
     exact ⟨by first|rfl|(simp [QC,QD]<;>rfl)|(simp [*,QC,QD]<;>rfl),by repeat (first|(with_reducible first|exact HB.out|apply Q2|apply Q1|apply Q4|refine Q8 ?_ Gw.out)|exact HB.out)⟩
end
section
theorem qlu (b:Nat) (x q:Int) (w:World) (hq:w.cell? ⟨b,0,none⟩=some (.int .i64 q)) :
  Calls Try.prog 103 #[.int .i64 x,.pointer (some ⟨b,0,none⟩)] w fun e w'=>e = .returned (.bool (x != q))∧w=w':=by
 go_enter Try.func103,Try.ntmps103
 go_wp2
 go_ret
 exact ⟨rfl,rfl⟩
set_option maxHeartbeats 4000000 in
set_option maxRecDepth 100000 in
theorem indexFunc_103.calls (A:Option Addr) (c:Nat) (l:List Int) (b:Nat) (q:Int) (w:World) (hr:Kd.C (Kd.int .i64) w A l.length l) (hq:w.cell? ⟨b,0,none⟩=some (.int .i64 q)) :
  Calls Try.prog 113 #[.slice A l.length c,.func (.func 103) #[] #[.pointer (some ⟨b,0,none⟩)]] w fun e w'=>(∃ r:Int,e = .returned (.int .i64 r)∧decide (0≤r)=l.any (fun z=>z != q))∧YQ w w':=by
 have HR:=Q0.mk hr
 have hmx:l.length≤9223372036854775807:=hr.2.1
 clear hr
 go_enter Try.func113,Try.ntmps113
 go_wp2
 go_loopg [8] l.length (fun d v8 w' => ∃ (x:Int) (k:Nat),v8 = .int .i64 x∧Q0 (x=(k:Int))∧Q0 (k+d=l.length)∧Q0 ((l.take k).any (fun z=>z != q)=false)∧YQ w w')
 case atStart=>exact ⟨_,0,rfl,⟨rfl⟩,⟨Nat.zero_add _⟩,⟨by simp⟩,YQ.refl _⟩
 case round =>
  obtain ⟨x,k,rfl,HX,HD,HN,⟨m1,rfl⟩⟩:=hrel
  by_cases hk:x<(l.length:Int)
  ·
   have hx0:0≤x:=by have:=HX.out;omega
   obtain ⟨ad,ea,hA⟩:=Kd.at_int HR.out x hx0 hk
   subst ea
   have hkl:k<l.length:=by have:=HX.out;omega
   have HEL:=Q0.mk (show rd l x=l[k] by rw [HX.out];simp [rd,List.getD_eq_getElem?_getD,List.getElem?_eq_getElem hkl])
   have HTK:=Q0.mk (show (l.take (k+1)).any (fun z=>z != q)=((l.take k).any (fun z=>z != q)||(fun z=>z != q) (rd l x)) by rw [List.take_succ_eq_append_getElem hkl,List.any_append,HEL.out];simp)
   by_cases hp:(fun z=>z != q) (rd l x)=true
   ·
    have HP:=Q0.mk hp;have hb:(rd l x != q)=true:=HP.out;clear hp
    go_wp2_with (go_at_call 103;refine (qlu b (rd l x) q _ ?hc).mono ?_;(case hc=>simpa using hq);rintro e w1 ⟨rfl,rfl⟩)
    go_ret
    refine ⟨⟨_,rfl,?_⟩,⟨_,rfl⟩⟩;rw [decide_eq_true (by simpa using hx0)]
    symm
    rw [List.any_eq_true]
    exact ⟨l[k],List.getElem_mem hkl,HEL.out ▸ HP.out⟩
   ·
    have HP:=Q0.mk (Bool.eq_false_iff.2 hp);have hb:(rd l x != q)=false:=HP.out;clear hp
    cases gk with
    | zero=>exact absurd hk (by have:=HX.out;have:=HD.out;omega)
    | succ d =>
     go_wp2_with (go_at_call 103;refine (qlu b (rd l x) q _ ?hc).mono ?_;(case hc=>simpa using hq);rintro e w1 ⟨rfl,rfl⟩)
     go_roundg d
     case measure=>omega
     case rel=>exact ⟨_,k+1,rfl,⟨by rw [HX.out];rfl⟩,⟨by have:=HD.out;omega⟩,⟨by rw [HTK.out,HN.out,HP.out];rfl⟩,⟨_,rfl⟩⟩
  ·
   go_wp2
   go_ret
   refine ⟨⟨_,rfl,?_⟩,⟨_,rfl⟩⟩
   have hkk:k=l.length:=by have:=HX.out;have:=HD.out;omega
   have:=HN.out
   rw [hkk,List.take_length] at this
   rw [this]
   rfl
set_option maxRecDepth 100000 in
theorem containsFunc_103.calls (A:Option Addr) (c:Nat) (l:List Int) (b:Nat) (q:Int) (w:World) (hr:Kd.C (Kd.int .i64) w A l.length l) (hq:w.cell? ⟨b,0,none⟩=some (.int .i64 q)) :
  Calls Try.prog 102 #[.slice A l.length c,.func (.func 103) #[] #[.pointer (some ⟨b,0,none⟩)]] w fun e w'=>e = .returned (.bool (l.any (fun z=>z != q)))∧YQ w w':=by
 go_enter Try.func102,Try.ntmps102
 go_wp2_with (go_at_call 113;refine (indexFunc_103.calls A c l b q _ ?h1 ?h2).mono ?_;(case h1=>exact hr);(case h2=>exact hq);rintro e w' ⟨⟨r,rfl,hd⟩,⟨n1,rfl⟩⟩;have HD:=Q0.mk hd;clear hd)
 go_ret
 exact ⟨congrArg (fun b_=>Ending.returned (.bool b_)) HD.out,⟨_,rfl⟩⟩
def Jg.f (l0:List Int) (a1:Int):Option Bool:=some (l0.any (fun z=>z != a1))
theorem containsG.calls (b:Nat) (A0:Option Addr) (c0 n:Nat) (l0:List Int) (a1:Int) (r:Bool) (w:World) (hn:n=l0.length) (hr0:Kd.C (Kd.int .i64) w A0 l0.length l0) (hc0:l0.length≤c0) (hq:w.cell? ⟨b,0,none⟩=some (.int .i64 a1)) (h:Jg.f l0 a1=some r) :
  Calls Try.prog 102 #[.slice A0 n c0,.func (.func 103) #[] #[.pointer (some ⟨b,0,none⟩)]] w fun e w'=>e = .returned (.bool r)∧YQ w w':=by
 unfold Jg.f at h
 injection h with h
 subst h hn
 exact containsFunc_103.calls A0 c0 l0 b a1 w hr0 hq
def XS (z:Int):Bool:=!(decide (0≤z)&&decide (z≤100000))
theorem qBh (x:Int) (w:World):Calls Try.prog 110 #[.int .i64 x] w fun e w'=>e = .returned (.bool (XS x))∧w=w':=by
 by_cases h1:0≤x
 ·
  by_cases h2:x≤100000
  ·
   go_enter Try.func110,Try.ntmps110
   go_wp2
   go_ret
   exact ⟨by simp [XS,h1,h2],rfl⟩
  ·
   go_enter Try.func110,Try.ntmps110
   go_wp2
   go_ret
   exact ⟨by simp [XS,h1,h2],rfl⟩
 ·
  go_enter Try.func110,Try.ntmps110
  go_wp2
  go_ret
  exact ⟨by simp [XS,h1],rfl⟩
end
end Go.Proofs.Ytmhomdohhihlcaa.P
