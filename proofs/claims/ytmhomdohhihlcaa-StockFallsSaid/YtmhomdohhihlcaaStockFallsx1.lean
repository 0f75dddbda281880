/- What the statement StockFalls leans on, part 2 of 6: contracts of the program's functions; conditions: none. -/
import Derived.Maps.OwnSet
import Derived.DeepKeys4
import Derived.Deep.LoopGhost
import Derived.RangeFuncRecord
import Derived.RangeFuncNested
import Derived.RangeFuncBound
import Derived.RangeFuncCalls
import Derived.RangeFuncLeaves
import Derived.Shelf.Abstract
import Derived.Shelf.RegionOpen
import Derived.WalkKit
import Derived.OwnWalkIn
import Derived.TacticsInMore
import Derived.LoopNIn
import Derived.LoopIn
import Derived.Sort.LoopGhostIn
import Derived.Sort.CutIn
import Derived.ArgAppend
import Derived.Deep.RegionHeld3
import Derived.StillTailTactics
import Derived.Deep.DeepCutAuto
import Derived.OpenShut
import Derived.Laws.EntriesVeiled
import Derived.Test.YtmhomdohhihlcaaStockFallsx0
set_option linter.unusedVariables false
set_option linter.unusedSimpArgs false
set_option linter.constructorNameAsVariable false
set_option linter.unusedSectionVars false
namespace Go.Proofs.Ytmhomdohhihlcaa.P
open Go.RowKit Go.Proofs.YtmhomdohhihlcaaW.PrintWords Go.Proofs.YtmhomdohhihlcaaW.PrintLast Go.Proofs.YtmhomdohhihlcaaW.PrintMore
section
attribute [local go_sem] Yv Yx YK YL Yn Yo Yw Yy
mutual
def Qy.j0:Nat→List Int→List Int→Bool→List Int→List Int→List Int→Int→Int→Option (List Int × Int)
 | 0,_,_,_,_,_,_,_,_=>none
 | k+1,x1,x2,x9,KE,KF,KG,KH,KI=>Qy.l0 k x1 x2 x9 0 KE KF KG KH KI
def Qy.l0:Nat→List Int→List Int→Bool→Int→List Int→List Int→List Int→Int→Int→Option (List Int × Int)
 | 0,_,_,_,_,_,_,_,_,_=>none
 | k+1,x1,x2,x9,x10,KE,KF,KG,KH,KI=>if x9=true then (Qy.j2 k x1 x2 x9 x10 (decide (x10<(x1.length:Int))) KE KF KG KH KI) else (Qy.j2 k x1 x2 x9 x10 false KE KF KG KH KI)
def Qy.j2:Nat→List Int→List Int→Bool→Int→Bool→List Int→List Int→List Int→Int→Int→Option (List Int × Int)
 | 0,_,_,_,_,_,_,_,_,_,_=>none
 | k+1,x1,x2,x9,x10,x39,KE,KF,KG,KH,KI=>if x39=true then (if 0≤x10 then (if x10<(x1.length:Int) then ((Qv.f (rd x1 x10) 0 100000000).bind fun t159=>(if t159=true then (if x10<(x2.length:Int) then ((Qv.f (rd x2 x10) 0 100000).bind fun qd0=>(Qy.l0 k x1 x2 qd0 (wrap64 (x10+1)) KE KF KG KH KI)) else (none)) else (Qy.l0 k x1 x2 false (wrap64 (x10+1)) KE KF KG KH KI))) else (none)) else (none)) else (if x9=true then ((Z6.f KE KF KG KH KI).bind fun KX=>(Qy.l1 k x1 x2 ([]:List Int) (x1.length:Int) 0 KE KF KG KH KI KX.1 KX.2.1 KX.2.2.1 KX.2.2.2.1 KX.2.2.2.2.1 KX.2.2.2.2.2)) else (some (([]:List Int),92)))
def Qy.l1:Nat→List Int→List Int→List Int→Int→Int→List Int→List Int→List Int→Int→Int→Int→Int→Int→Int→Int→Int→Option (List Int × Int)
 | 0,_,_,_,_,_,_,_,_,_,_,_,_,_,_,_,_=>none
 | k+1,x1,x2,x13,x59,x60,KE,KF,KG,KH,KI,qpa,qpb,qpc,qpd,qpe,qpf=>if x60<x59 then (if 0≤x60 then (if x60<(x1.length:Int) then (if x60<(x2.length:Int) then ((Zl.f KE KF KG KH KI qpa qpb qpc qpd qpe qpf (rd x1 x60) (rd x2 x60)).bind fun qdJ=>(if x13.length<17592186044416 then (Qy.l1 k x1 x2 (x13++[qdJ.1]) x59 (wrap64 (x60+1)) KE KF KG KH KI qdJ.2.1 qdJ.2.2.1 qdJ.2.2.2.1 qdJ.2.2.2.2.1 qdJ.2.2.2.2.2.1 qdJ.2.2.2.2.2.2) else (none))) else (none)) else (none)) else (none)) else (if 0≤(x13.length:Int) then (if (x13.length:Int)≤(x13.length:Int) then (some ((x13.take ((x13.length:Int):Int).toNat),0)) else (none)) else (none))
end
def Qy.f (k:Nat) (Qi:List Int) (Qn:List Int) (Ql:List Int) (QD:Int) (QA:Int) (l1:List Int) (l2:List Int):Option (List Int × Int):=(Qo.f k Qi Qn Ql QD QA).bind fun t156=>(if t156=true then ((Qv.f (l1.length:Int) 1 10).bind fun t157=>(if t157=true then (Qy.j0 k l1 l2 ((l2.length:Int)==(l1.length:Int)) Qi Qn Ql QD QA) else (Qy.j0 k l1 l2 false Qi Qn Ql QD QA))) else (Qy.j0 k l1 l2 false Qi Qn Ql QD QA))
def Qy.T15:Bool × List (List Nat × List Nat):=(true,[([],[]),([],[]),([],[]),([],[]),([],[]),([3,4],[3,4]),([5],[5]),([],[]),([],[]),([7,8],[7,8]),([9],[9]),([0,1,2,6,10],[0,1,2,6,10]),([11],[11]),([12],[12]),([12],[12]),([],[]),([13,11,0,1,2,3,4,5,6,7,8,9,10,11,12,13,15],[13]),([15,14,16,0,1,2,3,4,5,6,7,8,9,10,11,12,13,14,15,16],[14,15])])
def Qy.B15:List Nat:=[0,0,0,0,0,24,56,0,0,384,896,2047,4095,8191,8191,0,49151,131071]
theorem Qy.tab15:rtab .any (qdQ Try.f25 15)=Qy.T15:=by kernel_rfl
theorem Qy.bits15:Od Qy.T15.2 Qy.B15=true:=by kernel_rfl
set_option maxHeartbeats 8000000 in
set_option maxRecDepth 100000 in
theorem Qy.calls (k:Nat) (QT:Option Addr) (QF:Nat) (Qi:List Int) (QR:Option Addr) (QH:Nat) (Qn:List Int) (QV:Option Addr) (QI:Nat) (Ql:List Int) (QD:Int) (QA:Int) (A1:Option Addr) (c1:Nat) (l1:List Int) (A2:Option Addr) (c2:Nat) (l2:List Int) (r1:List Int) (r2:Int) (w:World) (Gf:Kd.C (Kd.int .i64) w QT Qi.length Qi) (Gl:Qi.length≤QF) (Gg:Kd.C (Kd.int .i64) w QR Qn.length Qn) (Gm:Qn.length≤QH) (Gh:Kd.C (Kd.int .i64) w QV Ql.length Ql) (Gn:Ql.length≤QI) (hr1:Kd.C (Kd.int .i64) w A1 l1.length l1) (hc1:l1.length≤c1) (hr2:Kd.C (Kd.int .i64) w A2 l2.length l2) (hc2:l2.length≤c2) (h:Qy.f k Qi Qn Ql QD QA l1 l2=some (r1,r2)) :
  Calls Try.prog 25 #[.agg #[.slice QT Qi.length QF,.slice QR Qn.length QH,.slice QV Ql.length QI,.int .i64 QD,.int .i64 QA],.slice A1 l1.length c1,.slice A2 l2.length c2] w fun e w' => ∃ v0_:Value,e = .returned (.tuple #[v0_,.int .i64 r2])∧Kd.V (Kd.int .i64) 3 w' w.heap.size (fun k_=>(w.heap.size≤k_)) v0_ r1∧Below w.heap.size w w':=by
 have qkZ:=Try.underlying39
 have qmB:=Try.underlying111
 have qu4:=Try.underlying115
 have ZU:=Q0.mk Gf
 have JA:=Q0.mk Gl
 clear Gf Gl
 have Jc:=Q0.mk Gg
 have JC:=Q0.mk Gm
 clear Gg Gm
 have Jg:=Q0.mk Gh
 have JD:=Q0.mk Gn
 clear Gh Gn
 have HR1:=Q0.mk hr1
 have HC1:=Q0.mk hc1
 clear hr1 hc1
 have HR2:=Q0.mk hr2
 have HC2:=Q0.mk hc2
 clear hr2 hc2
 have HB:=Q0.mk (Below.refl w.heap.size w)
 have H:((Qo.f k Qi Qn Ql QD QA).bind fun t156=>(if t156=true then ((Qv.f (l1.length:Int) 1 10).bind fun t157=>(if t157=true then (Qy.j0 k l1 l2 ((l2.length:Int)==(l1.length:Int)) Qi Qn Ql QD QA) else (Qy.j0 k l1 l2 false Qi Qn Ql QD QA))) else (Qy.j0 k l1 l2 false Qi Qn Ql QD QA)))=some (r1,r2):=h
 clear h
 have HC4:=Q0.mk H
 clear H
 go_enter Try.func25,Try.ntmps25
 go_upto_region 2 with (first|((with_reducible refine Ya (N:=3) rfl ?_);(try (refine Jp (by rfl) ?_;dsimp only));refine YD ?hg (N:=3) ?hd (cs:=#[.slice QT Qi.length QF,.slice QR Qn.length QH,.slice QV Ql.length QI,.int .i64 QD,.int .i64 QA]) (t:=39) ?hr ?_;(case hd=>rfl);(case hg=>rfl);(case hr=>first|(go_simp;done)|(go_simp;rfl));intro J4 hg w5 hbox hb;have n0_:=Q0.mk (Qx (by repeat (first|(with_reducible first|exact HB.out|apply Q4|apply Q1|apply Qa)|exact HB.out)) hb);have n1_:=Q0.mk (hbox);have n2_:=Q0.mk ((by rw [hg];exact (Qq (by repeat (first|(with_reducible first|exact HB.out|apply Q4|apply Q1|apply Qa)|exact HB.out))):w.heap.size≤J4));have n3_:=n2_;clear HB;have HB:=n0_;have Z1:=n1_;have qCZ:=n2_;have J1:=n3_;clear n0_ n1_ n2_ n3_ hb hbox hg;have qav:w5.cell? ⟨J4,0,none⟩=some (.slice QT Qi.length QF):=(Qb Z1.out 0).trans rfl;have qaw:w5.cell? ⟨J4,1,none⟩=some (.slice QR Qn.length QH):=(Qb Z1.out 1).trans rfl;have qb3:w5.cell? ⟨J4,2,none⟩=some (.slice QV Ql.length QI):=(Qb Z1.out 2).trans rfl;have qe9:w5.cell? ⟨J4,3,none⟩=some (.int .i64 QD):=(Qb Z1.out 3).trans rfl;have qfa:w5.cell? ⟨J4,4,none⟩=some (.int .i64 QA):=(Qb Z1.out 4).trans rfl;have qaz:=Qc Z1.out 0;have qaA:=Qc Z1.out 1;have qb4:=Qc Z1.out 2;have qfn:=Qc Z1.out 3;have qfo:=Qc Z1.out 4)|((with_reducible refine Ya (N:=8) rfl ?_);(try (refine Jp (by rfl) ?_;dsimp only));refine YD ?hg (N:=8) ?hd (cs:=#[.slice none 0 0,.slice none 0 0,.slice none 0 0,.int .i64 0,.int .i64 0]) (t:=111) ?hr ?_;(case hd=>rfl);(case hg=>rfl);(case hr=>first|(go_simp;done)|(go_simp;rfl));intro Z4 hg w7 hbox hb;have n0_:=Q0.mk (Qp (g:=J4) (by (with_reducible repeat (first|refine Q3 ?_ _|refine Q6 ?_|refine Q2 ?_ _));exact Z1.out) hb);have n1_:=Q0.mk (Qx (by repeat (first|(with_reducible first|exact HB.out|apply Q4|apply Q1|apply Qa|refine Q5 ?_ J1.out)|exact HB.out)) hb);have n2_:=Q0.mk (hbox);have n3_:=Q0.mk ((by rw [hg];exact (Qq (by repeat (first|(with_reducible first|exact HB.out|apply Q4|apply Q1|apply Qa|refine Q5 ?_ J1.out)|exact HB.out))):w.heap.size≤Z4));have n4_:=n3_;have n5_:=Q0.mk ((by rw [hg];exact Nat.ne_of_lt (QY (g:=J4) (by (with_reducible repeat (first|refine Q3 ?_ _|refine Q6 ?_|refine Q2 ?_ _));exact Z1.out)):J4≠Z4));have n6_:=Q0.mk (n5_.out.symm);clear Z1 HB;have Z1:=n0_;have HB:=n1_;have Yf:=n2_;have qC0:=n3_;have Je:=n4_;have ZP:=n5_;have Wz:=n6_;clear n0_ n1_ n2_ n3_ n4_ n5_ n6_ hb hbox hg;have qGg:=Wz.out;have qGi:=ZP.out;have KJ:w7.cell? ⟨Z4,0,none⟩=some (.slice none 0 0):=(Qb Yf.out 0).trans rfl;have KL:w7.cell? ⟨Z4,1,none⟩=some (.slice none 0 0):=(Qb Yf.out 1).trans rfl;have KM:w7.cell? ⟨Z4,2,none⟩=some (.slice none 0 0):=(Qb Yf.out 2).trans rfl;have qfb:w7.cell? ⟨Z4,3,none⟩=some (.int .i64 0):=(Qb Yf.out 3).trans rfl;have qfc:w7.cell? ⟨Z4,4,none⟩=some (.int .i64 0):=(Qb Yf.out 4).trans rfl;have KN:=Qc Yf.out 0;have KO:=Qc Yf.out 1;have KP:=Qc Yf.out 2;have qfp:=Qc Yf.out 3;have qfq:=Qc Yf.out 4))
 (try simp only [Qe,Q7,Qd,Q9,Q8])
 go_cut [9] (fun v9 wc => ∃ (kq:Nat) (qpk:Bool),v9 = .bool qpk∧Q0 (Qy.j0 kq l1 l2 qpk Qi Qn Ql QD QA=some (r1,r2))∧Q0 (kq≤k)∧Q0 (wc.heap[J4]? = some (.cells #[(.slice QT Qi.length QF),(.slice QR Qn.length QH),(.slice QV Ql.length QI),.int .i64 QD,.int .i64 QA] 39 (0,0)))∧Q0 (wc.heap[Z4]? = some (.cells #[(.slice QT Qi.length QF),(.slice QR Qn.length QH),(.slice QV Ql.length QI),.int .i64 QD,.int .i64 QA] 111 (0,0)))∧Q0 (Below w.heap.size w wc))
 case first =>
  have H:=HC4.out
  clear HC4
  replace H:=Option.bind_eq_some_iff.mp H
  obtain ⟨t156,qlx,H⟩:=H
  replace H:(if t156=true then ((Qv.f (l1.length:Int) 1 10).bind fun t157=>(if t157=true then (Qy.j0 k l1 l2 ((l2.length:Int)==(l1.length:Int)) Qi Qn Ql QD QA) else (Qy.j0 k l1 l2 false Qi Qn Ql QD QA))) else (Qy.j0 k l1 l2 false Qi Qn Ql QD QA))=some (r1,r2):=H
  have A10:=Q0.mk qlx
  clear qlx
  by_cases c11:t156=true
  ·
   subst c11
   have H1:((Qv.f (l1.length:Int) 1 10).bind fun t157=>(if t157=true then (Qy.j0 k l1 l2 ((l2.length:Int)==(l1.length:Int)) Qi Qn Ql QD QA) else (Qy.j0 k l1 l2 false Qi Qn Ql QD QA)))=some (r1,r2):=by rw [if_pos rfl] at H;exact H
   clear H
   have H:=H1
   clear H1
   replace H:=Option.bind_eq_some_iff.mp H
   obtain ⟨t157,qdu,H⟩:=H
   replace H:(if t157=true then (Qy.j0 k l1 l2 ((l2.length:Int)==(l1.length:Int)) Qi Qn Ql QD QA) else (Qy.j0 k l1 l2 false Qi Qn Ql QD QA))=some (r1,r2):=H
   have A12:=Q0.mk qdu
   clear qdu
   by_cases c13:t157=true
   ·
    subst c13
    have H1:(Qy.j0 k l1 l2 ((l2.length:Int)==(l1.length:Int)) Qi Qn Ql QD QA)=some (r1,r2):=by rw [if_pos rfl] at H;exact H
    clear H;have H:=H1;clear H1;have H':=Q0.mk H;clear H;have qD7:=Wz.out;have qEI:=ZP.out;have OZ:w7.cell? ⟨Z4,0,none⟩=some (.slice none 0 0):=(Qb Yf.out 0).trans rfl;have U0:w7.cell? ⟨Z4,1,none⟩=some (.slice none 0 0):=(Qb Yf.out 1).trans rfl;have UK:w7.cell? ⟨Z4,2,none⟩=some (.slice none 0 0):=(Qb Yf.out 2).trans rfl;have UL:w7.cell? ⟨Z4,3,none⟩=some (.int .i64 0):=(Qb Yf.out 3).trans rfl;have UM:w7.cell? ⟨Z4,4,none⟩=some (.int .i64 0):=(Qb Yf.out 4).trans rfl;have U9:=Qc Yf.out 0;have Ua:=Qc Yf.out 1;have UX:=Qc Yf.out 2;have UY:=Qc Yf.out 3;have UZ:=Qc Yf.out 4
    go_wp2_with (first|((with_reducible refine QK (f:=76) rfl ?_);refine YP (some 20) rfl rfl Try.func76 (by kernel_rfl) rfl #[.agg #[.slice QT Qi.length QF,.slice QR Qn.length QH,.slice QV Ql.length QI,.int .i64 QD,.int .i64 QA]] rfl (by (try simp only [List.map_toArray,List.map_cons,List.map_nil]);first|done|rfl|(simp only [List.length_drop,List.length_take];rfl)) ?_;(with_reducible refine (Qo.calls k _ _ Qi _ _ Qn _ _ Ql QD QA true _ ?side1 ?side2 ?side3 ?side4 ?side5 ?side6 A10.out).mono ?_);(case side1=>exact Kd.C_below ZU.out (by repeat (first|(with_reducible first|exact HB.out|apply Q4|apply Q1|apply Qa|refine Q5 ?_ J1.out|refine Q5 ?_ Je.out)|exact HB.out)));(case side2=>exact JA.out);(case side3=>exact Kd.C_below Jc.out (by repeat (first|(with_reducible first|exact HB.out|apply Q4|apply Q1|apply Qa|refine Q5 ?_ J1.out|refine Q5 ?_ Je.out)|exact HB.out)));(case side4=>exact JC.out);(case side5=>exact Kd.C_below Jg.out (by repeat (first|(with_reducible first|exact HB.out|apply Q4|apply Q1|apply Qa|refine Q5 ?_ J1.out|refine Q5 ?_ Je.out)|exact HB.out)));(case side6=>exact JD.out);rintro e w16 ⟨rfl,hb⟩;refine ⟨_,rfl,?_⟩;have n0_:=Q0.mk (Qp (g:=J4) (o:=.cells #[.slice QT Qi.length QF,.slice QR Qn.length QH,.slice QV Ql.length QI,.int .i64 QD,.int .i64 QA] 39 (0,0)) (by (with_reducible repeat (first|refine Q3 ?_ _|refine Q6 ?_|refine Q2 ?_ _));refine Qu ?_ ZP.out _;(with_reducible repeat (first|refine Q3 ?_ _|refine Q6 ?_|refine Q2 ?_ _));refine Qu ?_ ZP.out _;(with_reducible repeat (first|refine Q3 ?_ _|refine Q6 ?_|refine Q2 ?_ _));refine Qu ?_ ZP.out _;(with_reducible repeat (first|refine Q3 ?_ _|refine Q6 ?_|refine Q2 ?_ _));refine Qu ?_ ZP.out _;(with_reducible repeat (first|refine Q3 ?_ _|refine Q6 ?_|refine Q2 ?_ _));refine Qu ?_ ZP.out _;(with_reducible repeat (first|refine Q3 ?_ _|refine Q6 ?_|refine Q2 ?_ _));exact Z1.out) hb);have n1_:=Q0.mk (Qp (g:=Z4) (o:=.cells #[.slice QT Qi.length QF,.slice QR Qn.length QH,.slice QV Ql.length QI,.int .i64 QD,.int .i64 QA] 111 (0,0)) (by (with_reducible repeat (first|refine Q3 ?_ _|refine Q6 ?_|refine Q2 ?_ _));refine QJ (cs:=#[.slice QT Qi.length QF,.slice QR Qn.length QH,.slice QV Ql.length QI,.int .i64 QD,.int .i64 0]) ?_ 4 _ rfl;(with_reducible repeat (first|refine Q3 ?_ _|refine Q6 ?_|refine Q2 ?_ _));refine QJ (cs:=#[.slice QT Qi.length QF,.slice QR Qn.length QH,.slice QV Ql.length QI,.int .i64 0,.int .i64 0]) ?_ 3 _ rfl;(with_reducible repeat (first|refine Q3 ?_ _|refine Q6 ?_|refine Q2 ?_ _));refine QJ (cs:=#[.slice QT Qi.length QF,.slice QR Qn.length QH,.slice none 0 0,.int .i64 0,.int .i64 0]) ?_ 2 _ rfl;(with_reducible repeat (first|refine Q3 ?_ _|refine Q6 ?_|refine Q2 ?_ _));refine QJ (cs:=#[.slice QT Qi.length QF,.slice none 0 0,.slice none 0 0,.int .i64 0,.int .i64 0]) ?_ 1 _ rfl;(with_reducible repeat (first|refine Q3 ?_ _|refine Q6 ?_|refine Q2 ?_ _));refine QJ (cs:=#[.slice none 0 0,.slice none 0 0,.slice none 0 0,.int .i64 0,.int .i64 0]) ?_ 0 _ rfl;(with_reducible repeat (first|refine Q3 ?_ _|refine Q6 ?_|refine Q2 ?_ _));exact Yf.out) hb);have n2_:=Q0.mk (Qx (by repeat (first|(with_reducible first|exact HB.out|apply Q4|apply Q1|apply Qa|refine Q5 ?_ J1.out|refine Q5 ?_ Je.out)|exact HB.out)) hb);clear Z1 Yf HB;have Z1:=n0_;have Yf:=n1_;have HB:=n2_;clear n0_ n1_ n2_;(try clear hb);(try clear hb2);(try clear hk);(try clear hi))|(go_at_call 65;(with_reducible refine (Qv.calls (l1.length:Int) 1 10 true _ A12.out).mono ?_);rintro e w' ⟨rfl,⟨nd,rfl⟩⟩))
    go_meet
    case rel=>exact ⟨_,(((l2.length:Int)==(l1.length:Int))),(by first|rfl|(simp;done)|(simp [*];done)),H',⟨by first|omega|exact Nat.le_refl _⟩,⟨by (with_reducible repeat (first|refine Q3 ?_ _|refine Q6 ?_|refine Q2 ?_ _));exact Z1.out⟩,⟨by (with_reducible repeat (first|refine Q3 ?_ _|refine Q6 ?_|refine Q2 ?_ _));exact Yf.out⟩,⟨by repeat (first|(with_reducible first|exact HB.out|apply Q4|apply Q1|apply Qa|refine Q5 ?_ J1.out|refine Q5 ?_ Je.out)|exact HB.out)⟩⟩
   replace c13:=Bool.eq_false_iff.mpr c13
   subst c13
   have H1:(Qy.j0 k l1 l2 false Qi Qn Ql QD QA)=some (r1,r2):=by rw [if_neg (show ¬ (false=true) by decide)] at H;exact H
   clear H
   have H:=H1
   clear H1
   have H':=Q0.mk H
   clear H
   have quu:=Wz.out
   have quL:=ZP.out
   have UN:w7.cell? ⟨Z4,0,none⟩=some (.slice none 0 0):=(Qb Yf.out 0).trans rfl
   have UO:w7.cell? ⟨Z4,1,none⟩=some (.slice none 0 0):=(Qb Yf.out 1).trans rfl
   have UP:w7.cell? ⟨Z4,2,none⟩=some (.slice none 0 0):=(Qb Yf.out 2).trans rfl
   have qcD:w7.cell? ⟨Z4,3,none⟩=some (.int .i64 0):=(Qb Yf.out 3).trans rfl
   have qcE:w7.cell? ⟨Z4,4,none⟩=some (.int .i64 0):=(Qb Yf.out 4).trans rfl
   have W4:=Qc Yf.out 0
   have W5:=Qc Yf.out 1
   have W6:=Qc Yf.out 2
   have qcU:=Qc Yf.out 3
   have qcV:=Qc Yf.out 4
   go_wp2_with (first|((with_reducible refine QK (f:=76) rfl ?_);refine YP (some 20) rfl rfl Try.func76 (by kernel_rfl) rfl #[.agg #[.slice QT Qi.length QF,.slice QR Qn.length QH,.slice QV Ql.length QI,.int .i64 QD,.int .i64 QA]] rfl (by (try simp only [List.map_toArray,List.map_cons,List.map_nil]);first|done|rfl|(simp only [List.length_drop,List.length_take];rfl)) ?_;(with_reducible refine (Qo.calls k _ _ Qi _ _ Qn _ _ Ql QD QA true _ ?side1 ?side2 ?side3 ?side4 ?side5 ?side6 A10.out).mono ?_);(case side1=>exact Kd.C_below ZU.out (by repeat (first|(with_reducible first|exact HB.out|apply Q4|apply Q1|apply Qa|refine Q5 ?_ J1.out|refine Q5 ?_ Je.out)|exact HB.out)));(case side2=>exact JA.out);(case side3=>exact Kd.C_below Jc.out (by repeat (first|(with_reducible first|exact HB.out|apply Q4|apply Q1|apply Qa|refine Q5 ?_ J1.out|refine Q5 ?_ Je.out)|exact HB.out)));(case side4=>exact JC.out);(case side5=>exact Kd.C_below Jg.out (by repeat (first|(with_reducible first|exact HB.out|apply Q4|apply Q1|apply Qa|refine Q5 ?_ J1.out|refine Q5 ?_ Je.out)|exact HB.out)));(case side6=>exact JD.out);rintro e w19 ⟨rfl,hb⟩;refine ⟨_,rfl,?_⟩;have n0_:=Q0.mk (Qp (g:=J4) (o:=.cells #[.slice QT Qi.length QF,.slice QR Qn.length QH,.slice QV Ql.length QI,.int .i64 QD,.int .i64 QA] 39 (0,0)) (by (with_reducible repeat (first|refine Q3 ?_ _|refine Q6 ?_|refine Q2 ?_ _));refine Qu ?_ ZP.out _;(with_reducible repeat (first|refine Q3 ?_ _|refine Q6 ?_|refine Q2 ?_ _));refine Qu ?_ ZP.out _;(with_reducible repeat (first|refine Q3 ?_ _|refine Q6 ?_|refine Q2 ?_ _));refine Qu ?_ ZP.out _;(with_reducible repeat (first|refine Q3 ?_ _|refine Q6 ?_|refine Q2 ?_ _));refine Qu ?_ ZP.out _;(with_reducible repeat (first|refine Q3 ?_ _|refine Q6 ?_|refine Q2 ?_ _));refine Qu ?_ ZP.out _;(with_reducible repeat (first|refine Q3 ?_ _|refine Q6 ?_|refine Q2 ?_ _));exact Z1.out) hb);have n1_:=Q0.mk (Qp (g:=Z4) (o:=.cells #[.slice QT Qi.length QF,.slice QR Qn.length QH,.slice QV Ql.length QI,.int .i64 QD,.int .i64 QA] 111 (0,0)) (by (with_reducible repeat (first|refine Q3 ?_ _|refine Q6 ?_|refine Q2 ?_ _));refine QJ (cs:=#[.slice QT Qi.length QF,.slice QR Qn.length QH,.slice QV Ql.length QI,.int .i64 QD,.int .i64 0]) ?_ 4 _ rfl;(with_reducible repeat (first|refine Q3 ?_ _|refine Q6 ?_|refine Q2 ?_ _));refine QJ (cs:=#[.slice QT Qi.length QF,.slice QR Qn.length QH,.slice QV Ql.length QI,.int .i64 0,.int .i64 0]) ?_ 3 _ rfl;(with_reducible repeat (first|refine Q3 ?_ _|refine Q6 ?_|refine Q2 ?_ _));refine QJ (cs:=#[.slice QT Qi.length QF,.slice QR Qn.length QH,.slice none 0 0,.int .i64 0,.int .i64 0]) ?_ 2 _ rfl;(with_reducible repeat (first|refine Q3 ?_ _|refine Q6 ?_|refine Q2 ?_ _));refine QJ (cs:=#[.slice QT Qi.length QF,.slice none 0 0,.slice none 0 0,.int .i64 0,.int .i64 0]) ?_ 1 _ rfl;(with_reducible repeat (first|refine Q3 ?_ _|refine Q6 ?_|refine Q2 ?_ _));refine QJ (cs:=#[.slice none 0 0,.slice none 0 0,.slice none 0 0,.int .i64 0,.int .i64 0]) ?_ 0 _ rfl;(with_reducible repeat (first|refine Q3 ?_ _|refine Q6 ?_|refine Q2 ?_ _));exact Yf.out) hb);have n2_:=Q0.mk (Qx (by repeat (first|(with_reducible first|exact HB.out|apply Q4|apply Q1|apply Qa|refine Q5 ?_ J1.out|refine Q5 ?_ Je.out)|exact HB.out)) hb);clear Z1 Yf HB;have Z1:=n0_;have Yf:=n1_;have HB:=n2_;clear n0_ n1_ n2_;(try clear hb);(try clear hb2);(try clear hk);(try clear hi))|(go_at_call 65;(with_reducible refine (Qv.calls (l1.length:Int) 1 10 false _ A12.out).mono ?_);rintro e w' ⟨rfl,⟨nd,rfl⟩⟩))
   go_meet
   case rel=>exact ⟨_,(false),(by first|rfl|(simp;done)|(simp [*];done)),H',⟨by first|omega|exact Nat.le_refl _⟩,⟨by (with_reducible repeat (first|refine Q3 ?_ _|refine Q6 ?_|refine Q2 ?_ _));exact Z1.out⟩,⟨by (with_reducible repeat (first|refine Q3 ?_ _|refine Q6 ?_|refine Q2 ?_ _));exact Yf.out⟩,⟨by repeat (first|(with_reducible first|exact HB.out|apply Q4|apply Q1|apply Qa|refine Q5 ?_ J1.out|refine Q5 ?_ Je.out)|exact HB.out)⟩⟩
  replace c11:=Bool.eq_false_iff.mpr c11
  subst c11
  have H1:(Qy.j0 k l1 l2 false Qi Qn Ql QD QA)=some (r1,r2):=by rw [if_neg (show ¬ (false=true) by decide)] at H;exact H
  clear H
  have H:=H1
  clear H1
  have H':=Q0.mk H
  clear H
  have quv:=Wz.out
  have quM:=ZP.out
  have U1:w7.cell? ⟨Z4,0,none⟩=some (.slice none 0 0):=(Qb Yf.out 0).trans rfl
  have U2:w7.cell? ⟨Z4,1,none⟩=some (.slice none 0 0):=(Qb Yf.out 1).trans rfl
  have U3:w7.cell? ⟨Z4,2,none⟩=some (.slice none 0 0):=(Qb Yf.out 2).trans rfl
  have qcI:w7.cell? ⟨Z4,3,none⟩=some (.int .i64 0):=(Qb Yf.out 3).trans rfl
  have qcJ:w7.cell? ⟨Z4,4,none⟩=some (.int .i64 0):=(Qb Yf.out 4).trans rfl
  have Ub:=Qc Yf.out 0
  have Uc:=Qc Yf.out 1
  have Ud:=Qc Yf.out 2
  have qcZ:=Qc Yf.out 3
  have qc0:=Qc Yf.out 4
  go_wp2_with (first|((with_reducible refine QK (f:=76) rfl ?_);refine YP (some 20) rfl rfl Try.func76 (by kernel_rfl) rfl #[.agg #[.slice QT Qi.length QF,.slice QR Qn.length QH,.slice QV Ql.length QI,.int .i64 QD,.int .i64 QA]] rfl (by (try simp only [List.map_toArray,List.map_cons,List.map_nil]);first|done|rfl|(simp only [List.length_drop,List.length_take];rfl)) ?_;(with_reducible refine (Qo.calls k _ _ Qi _ _ Qn _ _ Ql QD QA false _ ?side1 ?side2 ?side3 ?side4 ?side5 ?side6 A10.out).mono ?_);(case side1=>exact Kd.C_below ZU.out (by repeat (first|(with_reducible first|exact HB.out|apply Q4|apply Q1|apply Qa|refine Q5 ?_ J1.out|refine Q5 ?_ Je.out)|exact HB.out)));(case side2=>exact JA.out);(case side3=>exact Kd.C_below Jc.out (by repeat (first|(with_reducible first|exact HB.out|apply Q4|apply Q1|apply Qa|refine Q5 ?_ J1.out|refine Q5 ?_ Je.out)|exact HB.out)));(case side4=>exact JC.out);(case side5=>exact Kd.C_below Jg.out (by repeat (first|(with_reducible first|exact HB.out|apply Q4|apply Q1|apply Qa|refine Q5 ?_ J1.out|refine Q5 ?_ Je.out)|exact HB.out)));(case side6=>exact JD.out);rintro e w22 ⟨rfl,hb⟩;refine ⟨_,rfl,?_⟩;have n0_:=Q0.mk (Qp (g:=J4) (o:=.cells #[.slice QT Qi.length QF,.slice QR Qn.length QH,.slice QV Ql.length QI,.int .i64 QD,.int .i64 QA] 39 (0,0)) (by (with_reducible repeat (first|refine Q3 ?_ _|refine Q6 ?_|refine Q2 ?_ _));refine Qu ?_ ZP.out _;(with_reducible repeat (first|refine Q3 ?_ _|refine Q6 ?_|refine Q2 ?_ _));refine Qu ?_ ZP.out _;(with_reducible repeat (first|refine Q3 ?_ _|refine Q6 ?_|refine Q2 ?_ _));refine Qu ?_ ZP.out _;(with_reducible repeat (first|refine Q3 ?_ _|refine Q6 ?_|refine Q2 ?_ _));refine Qu ?_ ZP.out _;(with_reducible repeat (first|refine Q3 ?_ _|refine Q6 ?_|refine Q2 ?_ _));refine Qu ?_ ZP.out _;(with_reducible repeat (first|refine Q3 ?_ _|refine Q6 ?_|refine Q2 ?_ _));exact Z1.out) hb);have n1_:=Q0.mk (Qp (g:=Z4) (o:=.cells #[.slice QT Qi.length QF,.slice QR Qn.length QH,.slice QV Ql.length QI,.int .i64 QD,.int .i64 QA] 111 (0,0)) (by (with_reducible repeat (first|refine Q3 ?_ _|refine Q6 ?_|refine Q2 ?_ _));refine QJ (cs:=#[.slice QT Qi.length QF,.slice QR Qn.length QH,.slice QV Ql.length QI,.int .i64 QD,.int .i64 0]) ?_ 4 _ rfl;(with_reducible repeat (first|refine Q3 ?_ _|refine Q6 ?_|refine Q2 ?_ _));refine QJ (cs:=#[.slice QT Qi.length QF,.slice QR Qn.length QH,.slice QV Ql.length QI,.int .i64 0,.int .i64 0]) ?_ 3 _ rfl;(with_reducible repeat (first|refine Q3 ?_ _|refine Q6 ?_|refine Q2 ?_ _));refine QJ (cs:=#[.slice QT Qi.length QF,.slice QR Qn.length QH,.slice none 0 0,.int .i64 0,.int .i64 0]) ?_ 2 _ rfl;(with_reducible repeat (first|refine Q3 ?_ _|refine Q6 ?_|refine Q2 ?_ _));refine QJ (cs:=#[.slice QT Qi.length QF,.slice none 0 0,.slice none 0 0,.int .i64 0,.int .i64 0]) ?_ 1 _ rfl;(with_reducible repeat (first|refine Q3 ?_ _|refine Q6 ?_|refine Q2 ?_ _));refine QJ (cs:=#[.slice none 0 0,.slice none 0 0,.slice none 0 0,.int .i64 0,.int .i64 0]) ?_ 0 _ rfl;(with_reducible repeat (first|refine Q3 ?_ _|refine Q6 ?_|refine Q2 ?_ _));exact Yf.out) hb);have n2_:=Q0.mk (Qx (by repeat (first|(with_reducible first|exact HB.out|apply Q4|apply Q1|apply Qa|refine Q5 ?_ J1.out|refine Q5 ?_ Je.out)|exact HB.out)) hb);clear Z1 Yf HB;have Z1:=n0_;have Yf:=n1_;have HB:=n2_;clear n0_ n1_ n2_;(try clear hb);(try clear hb2);(try clear hk);(try clear hi)))
  go_meet
  case rel=>exact ⟨_,(false),(by first|rfl|(simp;done)|(simp [*];done)),H',⟨by first|omega|exact Nat.le_refl _⟩,⟨by (with_reducible repeat (first|refine Q3 ?_ _|refine Q6 ?_|refine Q2 ?_ _));exact Z1.out⟩,⟨by (with_reducible repeat (first|refine Q3 ?_ _|refine Q6 ?_|refine Q2 ?_ _));exact Yf.out⟩,⟨by repeat (first|(with_reducible first|exact HB.out|apply Q4|apply Q1|apply Qa|refine Q5 ?_ J1.out|refine Q5 ?_ Je.out)|exact HB.out)⟩⟩
 clear HC4
 try clear c1
 try clear c2
 try clear p2
 try clear c7
 try clear c8
 try clear c11
 try clear c13
 try clear c14
 try clear c17
 try clear c20
 try clear OZ
 try clear U0
 try clear UK
 try clear UL
 try clear UM
 try clear UN
 try clear UO
 try clear UP
 try clear qcD
 try clear qcE
 try clear U1
 try clear U2
 try clear U3
 try clear qcI
 try clear qcJ
 try clear qav
 try clear qaw
 try clear qb3
 try clear qe9
 try clear qfa
 try clear KJ
 try clear KL
 try clear KM
 try clear qfb
 try clear qfc
 try clear U9
 try clear Ua
 try clear UX
 try clear UY
 try clear UZ
 try clear W4
 try clear W5
 try clear W6
 try clear qcU
 try clear qcV
 try clear Ub
 try clear Uc
 try clear Ud
 try clear qcZ
 try clear qc0
 try clear qaz
 try clear qaA
 try clear qb4
 try clear qfn
 try clear qfo
 try clear KN
 try clear KO
 try clear KP
 try clear qfp
 try clear qfq
 obtain ⟨kq,qpk,rfl,HA,HJ3,Z1,Yf,HB⟩:=hcut
 cases kq with
 | zero=>exact absurd HA.out (by simp [Qy.j0])
 | succ kj3 =>
  have H:=HA.out
  clear HA
  simp only [Qy.j0] at H
  have H':=Q0.mk H
  clear H
  go_wp2
  go_loopg [9,10] kj3 (fun kq v9 v10 w' => ∃ (qi0:Bool) (ZV:Int),v9 = .bool qi0∧v10 = .int .i64 ZV∧Q0 (Qy.l0 kq l1 l2 qi0 ZV Qi Qn Ql QD QA=some (r1,r2))∧Q0 (kq≤kj3)∧Q0 (w'.heap[J4]? = some (.cells #[(.slice QT Qi.length QF),(.slice QR Qn.length QH),(.slice QV Ql.length QI),.int .i64 QD,.int .i64 QA] 39 (0,0)))∧Q0 (w'.heap[Z4]? = some (.cells #[(.slice QT Qi.length QF),(.slice QR Qn.length QH),(.slice QV Ql.length QI),.int .i64 QD,.int .i64 QA] 111 (0,0)))∧Q0 (Below w.heap.size w w'))
  case atStart=>exact ⟨(qpk),(0),(by first|rfl|(simp;done)|(simp [*];done)),(by first|rfl|(simp;done)|(simp [*];done)),H',⟨Nat.le_refl _⟩,⟨by (with_reducible repeat (first|refine Q3 ?_ _|refine Q6 ?_|refine Q2 ?_ _));exact Z1.out⟩,⟨by (with_reducible repeat (first|refine Q3 ?_ _|refine Q6 ?_|refine Q2 ?_ _));exact Yf.out⟩,⟨by repeat (first|(with_reducible first|exact HB.out|apply Q4|apply Q1|apply Qa|refine Q5 ?_ J1.out|refine Q5 ?_ Je.out)|exact HB.out)⟩⟩
  clear H'
  try clear c1
  try clear c2
  try clear p2
  try clear c7
  try clear c8
  try clear c11
  try clear c13
  try clear c14
  try clear c17
  try clear c20
  try clear OZ
  try clear U0
  try clear UK
  try clear UL
  try clear UM
  try clear UN
  try clear UO
  try clear UP
  try clear qcD
  try clear qcE
  try clear U1
  try clear U2
  try clear U3
  try clear qcI
  try clear qcJ
  try clear qav
  try clear qaw
  try clear qb3
  try clear qe9
  try clear qfa
  try clear KJ
  try clear KL
  try clear KM
  try clear qfb
  try clear qfc
  try clear U9
  try clear Ua
  try clear UX
  try clear UY
  try clear UZ
  try clear W4
  try clear W5
  try clear W6
  try clear qcU
  try clear qcV
  try clear Ub
  try clear Uc
  try clear Ud
  try clear qcZ
  try clear qc0
  try clear qaz
  try clear qaA
  try clear qb4
  try clear qfn
  try clear qfo
  try clear KN
  try clear KO
  try clear KP
  try clear qfp
  try clear qfq
  try clear p2
  obtain ⟨qi0,ZV,rfl,rfl,HA,HK2,Z1,Yf,HB⟩:=hrel
  cases gk with
  | zero=>exact absurd HA.out (by simp [Qy.l0])
  | succ k2 =>
   have H:=HA.out
   clear HA
   simp only [Qy.l0] at H
   have qhL:=Q0.mk H
   clear H
   go_upto_region 4 with (fail)
   go_cut [39] (fun v39 wc => ∃ (kq:Nat) (qf0:Bool),v39 = .bool qf0∧Q0 (Qy.j2 kq l1 l2 qi0 ZV qf0 Qi Qn Ql QD QA=some (r1,r2))∧Q0 (kq≤k2)∧Q0 (wc.heap[J4]? = some (.cells #[(.slice QT Qi.length QF),(.slice QR Qn.length QH),(.slice QV Ql.length QI),.int .i64 QD,.int .i64 QA] 39 (0,0)))∧Q0 (wc.heap[Z4]? = some (.cells #[(.slice QT Qi.length QF),(.slice QR Qn.length QH),(.slice QV Ql.length QI),.int .i64 QD,.int .i64 QA] 111 (0,0)))∧Q0 (Below w.heap.size w wc))
   case first =>
    have H:=qhL.out;clear qhL
    by_cases c24:qi0=true
    ·
     subst c24
     have H1:(Qy.j2 k2 l1 l2 true ZV (decide (ZV<(l1.length:Int))) Qi Qn Ql QD QA)=some (r1,r2):=by rw [if_pos rfl] at H;exact H
     clear H;have H:=H1;clear H1;have H':=Q0.mk H;clear H
     go_wp2
     go_meet
     case rel=>exact ⟨_,(decide (ZV<(l1.length:Int))),(by first|rfl|(simp;done)|(simp [*];done)),H',⟨by have:=HJ3.out;have:=HK2.out;first|omega|exact Nat.le_refl _⟩,⟨by (with_reducible repeat (first|refine Q3 ?_ _|refine Q6 ?_|refine Q2 ?_ _));exact Z1.out⟩,⟨by (with_reducible repeat (first|refine Q3 ?_ _|refine Q6 ?_|refine Q2 ?_ _));exact Yf.out⟩,⟨by repeat (first|(with_reducible first|exact HB.out|apply Q4|apply Q1|apply Qa|refine Q5 ?_ J1.out|refine Q5 ?_ Je.out)|exact HB.out)⟩⟩
    replace c24:=Bool.eq_false_iff.mpr c24;subst c24
    have H1:(Qy.j2 k2 l1 l2 false ZV false Qi Qn Ql QD QA)=some (r1,r2):=by rw [if_neg (show ¬ (false=true) by decide)] at H;exact H
    clear H;have H:=H1;clear H1;have H':=Q0.mk H;clear H
    go_wp2
    go_meet
    case rel=>exact ⟨_,(false),(by first|rfl|(simp;done)|(simp [*];done)),H',⟨by have:=HJ3.out;have:=HK2.out;first|omega|exact Nat.le_refl _⟩,⟨by (with_reducible repeat (first|refine Q3 ?_ _|refine Q6 ?_|refine Q2 ?_ _));exact Z1.out⟩,⟨by (with_reducible repeat (first|refine Q3 ?_ _|refine Q6 ?_|refine Q2 ?_ _));exact Yf.out⟩,⟨by repeat (first|(with_reducible first|exact HB.out|apply Q4|apply Q1|apply Qa|refine Q5 ?_ J1.out|refine Q5 ?_ Je.out)|exact HB.out)⟩⟩
   clear qhL
   try clear c1
   try clear c2
   try clear p2
   try clear c7
   try clear c8
   try clear c11
   try clear c13
   try clear c14
   try clear c17
   try clear c20
   try clear c24
   try clear OZ
   try clear U0
   try clear UK
   try clear UL
   try clear UM
   try clear UN
   try clear UO
   try clear UP
   try clear qcD
   try clear qcE
   try clear U1
   try clear U2
   try clear U3
   try clear qcI
   try clear qcJ
   try clear qav
   try clear qaw
   try clear qb3
   try clear qe9
   try clear qfa
   try clear KJ
   try clear KL
   try clear KM
   try clear qfb
   try clear qfc
   try clear U9
   try clear Ua
   try clear UX
   try clear UY
   try clear UZ
   try clear W4
   try clear W5
   try clear W6
   try clear qcU
   try clear qcV
   try clear Ub
   try clear Uc
   try clear Ud
   try clear qcZ
   try clear qc0
   try clear qaz
   try clear qaA
   try clear qb4
   try clear qfn
   try clear qfo
   try clear KN
   try clear KO
   try clear KP
   try clear qfp
   try clear qfq
   try clear p2
   obtain ⟨kq,qf0,rfl,HA,Wm,Z1,Yf,HB⟩:=hcut
   cases kq with
   | zero=>exact absurd HA.out (by simp [Qy.j2])
   | succ Xg =>
    have H:=HA.out;clear HA;simp only [Qy.j2] at H
    by_cases c25:qf0=true
    ·
     subst c25
     have H1:(if 0≤ZV then (if ZV<(l1.length:Int) then ((Qv.f (rd l1 ZV) 0 100000000).bind fun t159=>(if t159=true then (if ZV<(l2.length:Int) then ((Qv.f (rd l2 ZV) 0 100000).bind fun qd0=>(Qy.l0 Xg l1 l2 qd0 (wrap64 (ZV+1)) Qi Qn Ql QD QA)) else (none)) else (Qy.l0 Xg l1 l2 false (wrap64 (ZV+1)) Qi Qn Ql QD QA))) else (none)) else (none))=some (r1,r2):=by rw [if_pos rfl] at H;exact H
     clear H;have H:=H1;clear H1
     by_cases c26:0≤ZV
     ·
      rw [if_pos c26] at H;have c26b0:decide (0≤ZV)=true:=decide_eq_true c26;clear c26
      by_cases c27:ZV<(l1.length:Int)
      ·
       rw [if_pos c27] at H;have c27b0:decide (ZV<(l1.length:Int))=true:=decide_eq_true c27;clear c27;replace H:=Option.bind_eq_some_iff.mp H;obtain ⟨t159,qrK,H⟩:=H;replace H:(if t159=true then (if ZV<(l2.length:Int) then ((Qv.f (rd l2 ZV) 0 100000).bind fun qd0=>(Qy.l0 Xg l1 l2 qd0 (wrap64 (ZV+1)) Qi Qn Ql QD QA)) else (none)) else (Qy.l0 Xg l1 l2 false (wrap64 (ZV+1)) Qi Qn Ql QD QA))=some (r1,r2):=H;have A28:=Q0.mk qrK;clear qrK
       by_cases c29:t159=true
       ·
        subst c29
        have H1:(if ZV<(l2.length:Int) then ((Qv.f (rd l2 ZV) 0 100000).bind fun qd0=>(Qy.l0 Xg l1 l2 qd0 (wrap64 (ZV+1)) Qi Qn Ql QD QA)) else (none))=some (r1,r2):=by rw [if_pos rfl] at H;exact H
        clear H;have H:=H1;clear H1
        by_cases c30:ZV<(l2.length:Int)
        ·
         rw [if_pos c30] at H;have c30b0:decide (ZV<(l2.length:Int))=true:=decide_eq_true c30;clear c30;replace H:=Option.bind_eq_some_iff.mp H;obtain ⟨qd0,qrL,H⟩:=H;replace H:(Qy.l0 Xg l1 l2 qd0 (wrap64 (ZV+1)) Qi Qn Ql QD QA)=some (r1,r2):=H;have A31:=Q0.mk qrL;clear qrL;have H':=Q0.mk H;clear H;have qg5:0≤(ZV:Int):=of_decide_eq_true (by first|(with_reducible assumption)|assumption);have qg7:ZV<(l1.length:Int):=of_decide_eq_true (by first|(with_reducible assumption)|assumption);obtain ⟨qsB,qqW,W8⟩:=Kd.at_int HR1.out ZV qg5 qg7;cases qqW;replace W8:=(HB.out.cell (World.block_lt_of_cell? w _ W8)).trans W8;replace qg5:=eq_true qg5;replace qg7:=eq_true qg7
         go_wp2_with (first|((with_reducible refine QK (f:=65) rfl ?_);refine YP (some 46) rfl rfl Try.func65 (by kernel_rfl) rfl #[.int .i64 (rd l1 ZV),.int .i64 0,.int .i64 100000000] rfl (by (try simp only [List.map_toArray,List.map_cons,List.map_nil]);first|done|rfl|(simp only [List.length_drop,List.length_take];rfl)) ?_;(with_reducible refine (Qv.calls (rd l1 ZV) 0 100000000 true _ A28.out).mono ?_);rintro e w' ⟨rfl,⟨nd,rfl⟩⟩;refine ⟨_,rfl,?_⟩;have qoS:0≤(ZV:Int):=of_decide_eq_true (by first|(with_reducible assumption)|assumption);have qoZ:ZV<(l2.length:Int):=of_decide_eq_true (by first|(with_reducible assumption)|assumption);obtain ⟨qDg,qBf,qdm⟩:=Kd.at_int HR2.out ZV qoS qoZ;cases qBf;replace qdm:=(HB.out.cell (World.block_lt_of_cell? w _ qdm)).trans qdm;replace qoS:=eq_true qoS;replace qoZ:=eq_true qoZ)|(go_at_call 65;(with_reducible refine (Qv.calls (rd l2 ZV) 0 100000 qd0 _ A31.out).mono ?_);rintro e w' ⟨rfl,⟨nd,rfl⟩⟩))
         go_roundg Xg
         case measure=>have:=HJ3.out;have:=HK2.out;have:=Wm.out;omega
         case rel=>exact ⟨(qd0),(wrap64 (ZV+1)),(by first|rfl|(simp;done)|(simp [*];done)),(by first|rfl|(simp;done)|(simp [*];done)),H',⟨by have:=HJ3.out;have:=HK2.out;have:=Wm.out;omega⟩,⟨by (with_reducible repeat (first|refine Q3 ?_ _|refine Q6 ?_|refine Q2 ?_ _));exact Z1.out⟩,⟨by (with_reducible repeat (first|refine Q3 ?_ _|refine Q6 ?_|refine Q2 ?_ _));exact Yf.out⟩,⟨by repeat (first|(with_reducible first|exact HB.out|apply Q4|apply Q1|apply Qa|refine Q5 ?_ J1.out|refine Q5 ?_ Je.out)|exact HB.out)⟩⟩
        rw [if_neg c30] at H
        exact absurd H (by simp)
       replace c29:=Bool.eq_false_iff.mpr c29;subst c29
       have H1:(Qy.l0 Xg l1 l2 false (wrap64 (ZV+1)) Qi Qn Ql QD QA)=some (r1,r2):=by rw [if_neg (show ¬ (false=true) by decide)] at H;exact H
       clear H;have H:=H1;clear H1;have H':=Q0.mk H;clear H;have qg5:0≤(ZV:Int):=of_decide_eq_true (by first|(with_reducible assumption)|assumption);have qg7:ZV<(l1.length:Int):=of_decide_eq_true (by first|(with_reducible assumption)|assumption);obtain ⟨qsB,qqW,W8⟩:=Kd.at_int HR1.out ZV qg5 qg7;cases qqW;replace W8:=(HB.out.cell (World.block_lt_of_cell? w _ W8)).trans W8;replace qg5:=eq_true qg5;replace qg7:=eq_true qg7
       go_wp2_with (first|((with_reducible refine QK (f:=65) rfl ?_);refine YP (some 46) rfl rfl Try.func65 (by kernel_rfl) rfl #[.int .i64 (rd l1 ZV),.int .i64 0,.int .i64 100000000] rfl (by (try simp only [List.map_toArray,List.map_cons,List.map_nil]);first|done|rfl|(simp only [List.length_drop,List.length_take];rfl)) ?_;(with_reducible refine (Qv.calls (rd l1 ZV) 0 100000000 false _ A28.out).mono ?_);rintro e w' ⟨rfl,⟨nd,rfl⟩⟩;refine ⟨_,rfl,?_⟩))
       go_roundg Xg
       case measure=>have:=HJ3.out;have:=HK2.out;have:=Wm.out;omega
       case rel=>exact ⟨(false),(wrap64 (ZV+1)),(by first|rfl|(simp;done)|(simp [*];done)),(by first|rfl|(simp;done)|(simp [*];done)),H',⟨by have:=HJ3.out;have:=HK2.out;have:=Wm.out;omega⟩,⟨by (with_reducible repeat (first|refine Q3 ?_ _|refine Q6 ?_|refine Q2 ?_ _));exact Z1.out⟩,⟨by (with_reducible repeat (first|refine Q3 ?_ _|refine Q6 ?_|refine Q2 ?_ _));exact Yf.out⟩,⟨by repeat (first|(with_reducible first|exact HB.out|apply Q4|apply Q1|apply Qa|refine Q5 ?_ J1.out|refine Q5 ?_ Je.out)|exact HB.out)⟩⟩
      rw [if_neg c27] at H
      exact absurd H (by simp)
     rw [if_neg c26] at H
     exact absurd H (by simp)
    replace c25:=Bool.eq_false_iff.mpr c25;subst c25
    have H1:(if qi0=true then ((Z6.f Qi Qn Ql QD QA).bind fun KX=>(Qy.l1 Xg l1 l2 ([]:List Int) (l1.length:Int) 0 Qi Qn Ql QD QA KX.1 KX.2.1 KX.2.2.1 KX.2.2.2.1 KX.2.2.2.2.1 KX.2.2.2.2.2)) else (some (([]:List Int),92)))=some (r1,r2):=by rw [if_neg (show ¬ (false=true) by decide)] at H;exact H
    clear H;have H:=H1;clear H1
    by_cases c32:qi0=true
    ·
     subst c32
     have H1:((Z6.f Qi Qn Ql QD QA).bind fun KX=>(Qy.l1 Xg l1 l2 ([]:List Int) (l1.length:Int) 0 Qi Qn Ql QD QA KX.1 KX.2.1 KX.2.2.1 KX.2.2.2.1 KX.2.2.2.2.1 KX.2.2.2.2.2))=some (r1,r2):=by rw [if_pos rfl] at H;exact H
     clear H;have H:=H1;clear H1;replace H:=Option.bind_eq_some_iff.mp H;obtain ⟨⟨t162,qiR,t164,qm5,qo6,t167⟩,qrN,H⟩:=H;replace H:(Qy.l1 Xg l1 l2 ([]:List Int) (l1.length:Int) 0 Qi Qn Ql QD QA t162 qiR t164 qm5 qo6 t167)=some (r1,r2):=H;have A33:=Q0.mk qrN;clear qrN;have H':=Q0.mk H;clear H;have qEc:=Wz.out;have qEN:=ZP.out;have qnI:wc.cell? ⟨Z4,0,none⟩=some (.slice QT Qi.length QF):=(Qb Yf.out 0).trans rfl;have qnJ:wc.cell? ⟨Z4,1,none⟩=some (.slice QR Qn.length QH):=(Qb Yf.out 1).trans rfl;have qnK:wc.cell? ⟨Z4,2,none⟩=some (.slice QV Ql.length QI):=(Qb Yf.out 2).trans rfl;have qnL:wc.cell? ⟨Z4,3,none⟩=some (.int .i64 QD):=(Qb Yf.out 3).trans rfl;have qnM:wc.cell? ⟨Z4,4,none⟩=some (.int .i64 QA):=(Qb Yf.out 4).trans rfl;have qoc:=Qc Yf.out 0;have qod:=Qc Yf.out 1;have qoe:=Qc Yf.out 2;have qof:=Qc Yf.out 3;have qog:=Qc Yf.out 4
     go_wp2_with (first|((with_reducible refine QK (f:=78) rfl ?_);refine YP (some 57) rfl rfl Try.func78 (by kernel_rfl) rfl #[.agg #[.slice QT Qi.length QF,.slice QR Qn.length QH,.slice QV Ql.length QI,.int .i64 QD,.int .i64 QA]] rfl (by (try simp only [List.map_toArray,List.map_cons,List.map_nil]);first|done|rfl|(simp only [List.length_drop,List.length_take];rfl)) ?_;(with_reducible refine (Z6.calls _ _ Qi _ _ Qn _ _ Ql QD QA t162 qiR t164 qm5 qo6 t167 _ ?side1 ?side2 ?side3 ?side4 ?side5 ?side6 A33.out).mono ?_);(case side1=>repeat (first|exact (Kd.C_below ZU.out HB.out)|(with_reducible refine Kd.C_alloc ?_ _)|(with_reducible refine Kd.C_drewN ?_ _)|(with_reducible refine Kd.C_drew ?_)));(case side2=>exact JA.out);(case side3=>repeat (first|exact (Kd.C_below Jc.out HB.out)|(with_reducible refine Kd.C_alloc ?_ _)|(with_reducible refine Kd.C_drewN ?_ _)|(with_reducible refine Kd.C_drew ?_)));(case side4=>exact JC.out);(case side5=>repeat (first|exact (Kd.C_below Jg.out HB.out)|(with_reducible refine Kd.C_alloc ?_ _)|(with_reducible refine Kd.C_drewN ?_ _)|(with_reducible refine Kd.C_drew ?_)));(case side6=>exact JD.out);rintro e w36 ⟨rfl,hb⟩;refine ⟨_,rfl,?_⟩;have n0_:=Q0.mk (Qp (g:=J4) (by (with_reducible repeat (first|refine Q3 ?_ _|refine Q6 ?_|refine Q2 ?_ _));exact Z1.out) hb);have n1_:=Q0.mk (Qp (g:=Z4) (by (with_reducible repeat (first|refine Q3 ?_ _|refine Q6 ?_|refine Q2 ?_ _));exact Yf.out) hb);have n2_:=Q0.mk (Qx (by repeat (first|(with_reducible first|exact HB.out|apply Q4|apply Q1|apply Qa|refine Q5 ?_ J1.out|refine Q5 ?_ Je.out)|exact HB.out)) hb);clear Z1 Yf HB;have Z1:=n0_;have Yf:=n1_;have HB:=n2_;clear n0_ n1_ n2_;(try clear hb);(try clear hb2);(try clear hk);(try clear hi))|((with_reducible refine Ya (N:=12) rfl ?_);(try (refine Jp (by rfl) ?_;dsimp only));refine YD ?hg (N:=12) ?hd (cs:=#[.int .i64 0,.int .i64 0,.int .i64 0,.int .i64 0,.int .i64 0,.int .i64 0]) (t:=115) ?hr ?_;(case hd=>rfl);(case hg=>rfl);(case hr=>first|(go_simp;done)|(go_simp;rfl));intro YE hg w37 hbox hb;have n0_:=Q0.mk (Qp (g:=J4) (by (with_reducible repeat (first|refine Q3 ?_ _|refine Q6 ?_|refine Q2 ?_ _));exact Z1.out) hb);have n1_:=Q0.mk (Qp (g:=Z4) (by (with_reducible repeat (first|refine Q3 ?_ _|refine Q6 ?_|refine Q2 ?_ _));exact Yf.out) hb);have n2_:=Q0.mk (Qx (by repeat (first|(with_reducible first|exact HB.out|apply Q4|apply Q1|apply Qa|refine Q5 ?_ J1.out|refine Q5 ?_ Je.out)|exact HB.out)) hb);have n3_:=Q0.mk (hbox);have n4_:=Q0.mk ((by rw [hg];exact (Qq (by repeat (first|(with_reducible first|exact HB.out|apply Q4|apply Q1|apply Qa|refine Q5 ?_ J1.out|refine Q5 ?_ Je.out)|exact HB.out))):w.heap.size≤YE));have n5_:=n4_;have n6_:=Q0.mk ((by rw [hg];exact Nat.ne_of_lt (QY (g:=J4) (by (with_reducible repeat (first|refine Q3 ?_ _|refine Q6 ?_|refine Q2 ?_ _));exact Z1.out)):J4≠YE));have n7_:=Q0.mk (n6_.out.symm);have n8_:=Q0.mk ((by rw [hg];exact Nat.ne_of_lt (QY (g:=Z4) (by (with_reducible repeat (first|refine Q3 ?_ _|refine Q6 ?_|refine Q2 ?_ _));exact Yf.out)):Z4≠YE));have n9_:=Q0.mk (n8_.out.symm);clear Z1 Yf HB;have Z1:=n0_;have Yf:=n1_;have HB:=n2_;have YJ:=n3_;have qC1:=n4_;have OM:=n5_;have ZW:=n6_;have Ol:=n7_;have ZX:=n8_;have Om:=n9_;clear n0_ n1_ n2_ n3_ n4_ n5_ n6_ n7_ n8_ n9_ hb hbox hg;have qEe:=Ol.out;have qEP:=ZW.out;have qqi:=Om.out;have qqj:=ZX.out;have qcO:w37.cell? ⟨YE,0,none⟩=some (.int .i64 0):=(Qb YJ.out 0).trans rfl;have qcP:w37.cell? ⟨YE,1,none⟩=some (.int .i64 0):=(Qb YJ.out 1).trans rfl;have qcQ:w37.cell? ⟨YE,2,none⟩=some (.int .i64 0):=(Qb YJ.out 2).trans rfl;have qnT:w37.cell? ⟨YE,3,none⟩=some (.int .i64 0):=(Qb YJ.out 3).trans rfl;have qnU:w37.cell? ⟨YE,4,none⟩=some (.int .i64 0):=(Qb YJ.out 4).trans rfl;have qnV:w37.cell? ⟨YE,5,none⟩=some (.int .i64 0):=(Qb YJ.out 5).trans rfl;have qdb:=Qc YJ.out 0;have qdc:=Qc YJ.out 1;have qdd:=Qc YJ.out 2;have qon:=Qc YJ.out 3;have qoo:=Qc YJ.out 4;have qop:=Qc YJ.out 5))
     go_loopg [13,60] Xg (fun kq v13 v60 w' => ∃ (GN:List Int) (Jk:Int) (Zy:Int) (Zq:Int) (Zo:Int) (Zj:Int) (Zh:Int) (Zc:Int),v60 = .int .i64 Jk∧Q0 (Qy.l1 kq l1 l2 GN (l1.length:Int) Jk Qi Qn Ql QD QA Zy Zq Zo Zj Zh Zc=some (r1,r2))∧Q0 (kq≤Xg)∧Q0 (Kd.R (Kd.int .i64) 3 w' w.heap.size (fun k_=>(w.heap.size≤k_)) v13 GN)∧Q0 (w'.heap[J4]? = some (.cells #[(.slice QT Qi.length QF),(.slice QR Qn.length QH),(.slice QV Ql.length QI),.int .i64 QD,.int .i64 QA] 39 (0,0)))∧Q0 (w'.heap[Z4]? = some (.cells #[(.slice QT Qi.length QF),(.slice QR Qn.length QH),(.slice QV Ql.length QI),.int .i64 QD,.int .i64 QA] 111 (0,0)))∧Q0 (w'.heap[YE]? = some (.cells #[.int .i64 Zy,.int .i64 Zq,.int .i64 Zo,.int .i64 Zj,.int .i64 Zh,.int .i64 Zc] 115 (0,0)))∧Q0 (Below w.heap.size w w'))
     case atStart=>exact ⟨(([]:List Int)),(0),(t162),(qiR),(t164),(qm5),(qo6),(t167),(by first|rfl|(simp;done)|(simp [*];done)),H',⟨Nat.le_refl _⟩,⟨by first|exact Kd.R_nil _ _ _ _ _|exact Kd.N_nil _ _ _ _ _|exact Kd.V_nil _ _ _ _ _|exact Kd.Q_nil _ _ _ _ _|exact Kd.S_nil _ _ _ _ _⟩,⟨by (with_reducible repeat (first|refine Q3 ?_ _|refine Q6 ?_|refine Q2 ?_ _));refine Qu ?_ ZW.out _;(with_reducible repeat (first|refine Q3 ?_ _|refine Q6 ?_|refine Q2 ?_ _));refine Qu ?_ ZW.out _;(with_reducible repeat (first|refine Q3 ?_ _|refine Q6 ?_|refine Q2 ?_ _));refine Qu ?_ ZW.out _;(with_reducible repeat (first|refine Q3 ?_ _|refine Q6 ?_|refine Q2 ?_ _));refine Qu ?_ ZW.out _;(with_reducible repeat (first|refine Q3 ?_ _|refine Q6 ?_|refine Q2 ?_ _));refine Qu ?_ ZW.out _;(with_reducible repeat (first|refine Q3 ?_ _|refine Q6 ?_|refine Q2 ?_ _));refine Qu ?_ ZW.out _;(with_reducible repeat (first|refine Q3 ?_ _|refine Q6 ?_|refine Q2 ?_ _));exact Z1.out⟩,⟨by (with_reducible repeat (first|refine Q3 ?_ _|refine Q6 ?_|refine Q2 ?_ _));refine Qu ?_ ZX.out _;(with_reducible repeat (first|refine Q3 ?_ _|refine Q6 ?_|refine Q2 ?_ _));refine Qu ?_ ZX.out _;(with_reducible repeat (first|refine Q3 ?_ _|refine Q6 ?_|refine Q2 ?_ _));refine Qu ?_ ZX.out _;(with_reducible repeat (first|refine Q3 ?_ _|refine Q6 ?_|refine Q2 ?_ _));refine Qu ?_ ZX.out _;(with_reducible repeat (first|refine Q3 ?_ _|refine Q6 ?_|refine Q2 ?_ _));refine Qu ?_ ZX.out _;(with_reducible repeat (first|refine Q3 ?_ _|refine Q6 ?_|refine Q2 ?_ _));refine Qu ?_ ZX.out _;(with_reducible repeat (first|refine Q3 ?_ _|refine Q6 ?_|refine Q2 ?_ _));exact Yf.out⟩,⟨by (with_reducible repeat (first|refine Q3 ?_ _|refine Q6 ?_|refine Q2 ?_ _));refine QJ (cs:=#[.int .i64 t162,.int .i64 qiR,.int .i64 t164,.int .i64 qm5,.int .i64 qo6,.int .i64 0]) ?_ 5 _ rfl;(with_reducible repeat (first|refine Q3 ?_ _|refine Q6 ?_|refine Q2 ?_ _));refine QJ (cs:=#[.int .i64 t162,.int .i64 qiR,.int .i64 t164,.int .i64 qm5,.int .i64 0,.int .i64 0]) ?_ 4 _ rfl;(with_reducible repeat (first|refine Q3 ?_ _|refine Q6 ?_|refine Q2 ?_ _));refine QJ (cs:=#[.int .i64 t162,.int .i64 qiR,.int .i64 t164,.int .i64 0,.int .i64 0,.int .i64 0]) ?_ 3 _ rfl;(with_reducible repeat (first|refine Q3 ?_ _|refine Q6 ?_|refine Q2 ?_ _));refine QJ (cs:=#[.int .i64 t162,.int .i64 qiR,.int .i64 0,.int .i64 0,.int .i64 0,.int .i64 0]) ?_ 2 _ rfl;(with_reducible repeat (first|refine Q3 ?_ _|refine Q6 ?_|refine Q2 ?_ _));refine QJ (cs:=#[.int .i64 t162,.int .i64 0,.int .i64 0,.int .i64 0,.int .i64 0,.int .i64 0]) ?_ 1 _ rfl;(with_reducible repeat (first|refine Q3 ?_ _|refine Q6 ?_|refine Q2 ?_ _));refine QJ (cs:=#[.int .i64 0,.int .i64 0,.int .i64 0,.int .i64 0,.int .i64 0,.int .i64 0]) ?_ 0 _ rfl;(with_reducible repeat (first|refine Q3 ?_ _|refine Q6 ?_|refine Q2 ?_ _));exact YJ.out⟩,⟨by repeat (first|(with_reducible first|exact HB.out|apply Q4|apply Q1|apply Qa|refine Q5 ?_ J1.out|refine Q5 ?_ Je.out|refine Q5 ?_ OM.out)|exact HB.out)⟩⟩
     clear H';(try clear c1);(try clear p1);(try clear q1);(try clear hx1);(try clear c2);(try clear p2);(try clear c3);(try clear c6);(try clear p6);(try clear c7);(try clear c8);(try clear c11);(try clear c13);(try clear c14);(try clear p15);(try clear q15);(try clear qGI);(try clear p16);(try clear q16);(try clear hx16);(try clear c17);(try clear c20);(try clear c24);(try clear c25);(try clear c26);(try clear c26b0);(try clear c27);(try clear c27b0);(try clear c29);(try clear c30);(try clear c30b0);(try clear c32);(try clear c34);(try clear c38);(try clear c39);(try clear OZ);(try clear U0);(try clear UK);(try clear UL);(try clear UM);(try clear UN);(try clear UO);(try clear UP);(try clear qcD);(try clear qcE);(try clear U1);(try clear U2);(try clear U3);(try clear qcI);(try clear qcJ);(try clear qnI);(try clear qnJ);(try clear qnK);(try clear qnL);(try clear qnM);(try clear qcO);(try clear qcP);(try clear qcQ);(try clear qnT);(try clear qnU);(try clear qnV);(try clear qav);(try clear qaw);(try clear qb3);(try clear qe9);(try clear qfa);(try clear KJ);(try clear KL);(try clear KM);(try clear qfb);(try clear qfc);(try clear U9);(try clear Ua);(try clear UX);(try clear UY);(try clear UZ);(try clear W4);(try clear W5);(try clear W6);(try clear qcU);(try clear qcV);(try clear Ub);(try clear Uc);(try clear Ud);(try clear qcZ);(try clear qc0);(try clear qoc);(try clear qod);(try clear qoe);(try clear qof);(try clear qog);(try clear qdb);(try clear qdc);(try clear qdd);(try clear qon);(try clear qoo);(try clear qop);(try clear qaz);(try clear qaA);(try clear qb4);(try clear qfn);(try clear qfo);(try clear KN);(try clear KO);(try clear KP);(try clear qfp);(try clear qfq);(try clear W8);(try clear qdm);(try clear qg5);(try clear qoS);(try clear p2);(try clear qg7);(try clear qoZ);obtain ⟨GN,Jk,Zy,Zq,Zo,Zj,Zh,Zc,rfl,HA,HK4,HO_13,Z1,Yf,YJ,HB⟩:=hrel
     cases gk with
     | zero=>exact absurd HA.out (by simp [Qy.l1])
     | succ k4 =>
      have H:=HA.out;clear HA;simp only [Qy.l1] at H
      by_cases c41:Jk<(l1.length:Int)
      ·
       rw [if_pos c41] at H;have c41b0:decide (Jk<(l1.length:Int))=true:=decide_eq_true c41;clear c41
       by_cases c42:0≤Jk
       ·
        rw [if_pos c42] at H;have c42b0:decide (0≤Jk)=true:=decide_eq_true c42;clear c42
        by_cases c43:Jk<(l1.length:Int)
        ·
         rw [if_pos c43] at H;have c43b0:decide (Jk<(l1.length:Int))=true:=decide_eq_true c43;clear c43
         by_cases c44:Jk<(l2.length:Int)
         ·
          rw [if_pos c44] at H;have c44b0:decide (Jk<(l2.length:Int))=true:=decide_eq_true c44;clear c44;replace H:=Option.bind_eq_some_iff.mp H;obtain ⟨⟨t171,O1,t173,OR,t175,Ux,WJ⟩,qlC,H⟩:=H;replace H:(if GN.length<17592186044416 then (Qy.l1 k4 l1 l2 (GN++[t171]) (l1.length:Int) (wrap64 (Jk+1)) Qi Qn Ql QD QA O1 t173 OR t175 Ux WJ) else (none))=some (r1,r2):=H;have A45:=Q0.mk qlC;clear qlC
          by_cases c46:GN.length<17592186044416
          ·
           rw [if_pos c46] at H;have qso:=Q0.mk c46;clear c46;obtain ⟨qvd,qgu⟩:∃ y_:List Int,y_=(GN++[t171]):=⟨_,rfl⟩
           replace H:(Qy.l1 k4 l1 l2 qvd (l1.length:Int) (wrap64 (Jk+1)) Qi Qn Ql QD QA O1 t173 OR t175 Ux WJ)=some (r1,r2):=by first|(rw [qgu];with_reducible exact H)|(have H2_:=(Option.bind_some _ _).symm.trans H;rw [qgu];with_reducible exact H2_)|(have H2_:=(Option.bind_some _ _).symm.trans H;with_reducible exact H2_)|with_reducible exact H|(rw [qgu];exact H)|exact H
           have qsp:=Q0.mk qgu;clear qgu;have H':=Q0.mk H;clear H
           try go_wp2
           have n0_:=Q0.mk (Kd.R_drew HO_13.out);have n1_:=Q0.mk (Q6 Z1.out);have n2_:=Q0.mk (Q6 Yf.out);have n3_:=Q0.mk (Q6 YJ.out);have n4_:=Q0.mk (Qa HB.out);clear HO_13 Z1 Yf YJ HB;have HO_13:=n0_;have Z1:=n1_;have Yf:=n2_;have YJ:=n3_;have HB:=n4_;clear n0_ n1_ n2_ n3_ n4_;have qrr:0≤(Jk:Int):=of_decide_eq_true (by first|(with_reducible assumption)|assumption);have qrw:Jk<(l1.length:Int):=of_decide_eq_true (by first|(with_reducible assumption)|assumption);obtain ⟨qlU,e169,qbD⟩:=Kd.at_int HR1.out Jk qrr qrw;have Zu:=qbD;cases e169;replace qbD:=(HB.out.cell (World.block_lt_of_cell? w _ qbD)).trans qbD;replace qrr:=eq_true qrr;replace qrw:=eq_true qrw;have qrs:0≤(Jk:Int):=of_decide_eq_true (by first|(with_reducible assumption)|assumption);have qrx:Jk<(l2.length:Int):=of_decide_eq_true (by first|(with_reducible assumption)|assumption);obtain ⟨qlV,e170,qbE⟩:=Kd.at_int HR2.out Jk qrs qrx;have Zv:=qbE;cases e170;replace qbE:=(HB.out.cell (World.block_lt_of_cell? w _ qbE)).trans qbE;replace qrs:=eq_true qrs;replace qrx:=eq_true qrx;refine Km (n:=18) (S:=fun w'=>w'.cell? ⟨Z4,0,none⟩=some (.slice QT Qi.length QF)∧w'.cell? ⟨Z4,1,none⟩=some (.slice QR Qn.length QH)∧w'.cell? ⟨Z4,2,none⟩=some (.slice QV Ql.length QI)∧w'.cell? ⟨Z4,3,none⟩=some (.int .i64 QD)∧w'.cell? ⟨Z4,4,none⟩=some (.int .i64 QA)∧w'.cell? ⟨YE,0,none⟩=some (.int .i64 Zy)∧w'.cell? ⟨YE,1,none⟩=some (.int .i64 Zq)∧w'.cell? ⟨YE,2,none⟩=some (.int .i64 Zo)∧w'.cell? ⟨YE,3,none⟩=some (.int .i64 Zj)∧w'.cell? ⟨YE,4,none⟩=some (.int .i64 Zh)∧w'.cell? ⟨YE,5,none⟩=some (.int .i64 Zc)∧w'.cell? (qlU.add (Jk).toNat)=some (.int .i64 (rd l1 Jk))∧w'.cell? (qlV.add (Jk).toNat)=some (.int .i64 (rd l2 Jk))) (ds:=[]) (Qg 18 0) (by kernel_rfl) rfl rfl ⟨(Qb Yf.out 0).trans rfl,(Qb Yf.out 1).trans rfl,(Qb Yf.out 2).trans rfl,(Qb Yf.out 3).trans rfl,(Qb Yf.out 4).trans rfl,(Qb YJ.out 0).trans rfl,(Qb YJ.out 1).trans rfl,(Qb YJ.out 2).trans rfl,(Qb YJ.out 3).trans rfl,(Qb YJ.out 4).trans rfl,(Qb YJ.out 5).trans rfl,((HB.out.cell (World.block_lt_of_cell? w _ Zu)).trans Zu),((HB.out.cell (World.block_lt_of_cell? w _ Zv)).trans Zv)⟩ (fun hHeld => ?_);refine Jx Qy.tab15 Qy.bits15 (fun HT_ HW_ => ?_)
           generalize wr.drew=w47 at HO_13 Z1 Yf YJ HB qbD qbE hHeld ⊢
           refine Qh 0 (some 64) (Qg 18 1) rfl rfl HT_.out (by kernel_rfl) (fun _ _ _ h=>h) ⟨.inl ⟨by rfl,fun w'=>by go_simp;with_reducible rfl⟩,by simp only [Qe,Q7,Qd,Q9,Q8,Qj,Qk];rfl,?_⟩;refine Qh 3 (some 67) (Qg 18 9) rfl rfl HT_.out (by kernel_rfl) (fun _ _ _ h=>h) ⟨.inl ⟨by rfl,fun w'=>by go_simp;with_reducible rfl⟩,by simp only [Qe,Q7,Qd,Q9,Q8,Qj,Qk];rfl,?_⟩;refine Qh 4 (some 68) (Qg 18 25) rfl rfl HT_.out (by kernel_rfl) (fun _ _ _ h=>h) ⟨.inl ⟨by rfl,fun w'=>by go_simp;with_reducible rfl⟩,by simp only [Qe,Q7,Qd,Q9,Q8,Qj,Qk];rfl,?_⟩;refine Qh 5 (some 69) (Qg 18 57) rfl rfl HT_.out (by kernel_rfl) (fun _ _ _ h=>h) ⟨.inl ⟨by rfl,fun w'=>by go_simp;with_reducible rfl⟩,by simp only [Qe,Q7,Qd,Q9,Q8,Qj,Qk];rfl,?_⟩;refine Qh 7 (some 71) (Qg 18 185) rfl rfl HT_.out (by kernel_rfl) (fun _ _ _ h=>h) ⟨.inl ⟨by rfl,fun w'=>by go_simp;with_reducible rfl⟩,by simp only [Qe,Q7,Qd,Q9,Q8,Qj,Qk];rfl,?_⟩;refine Qh 8 (some 72) (Qg 18 441) rfl rfl HT_.out (by kernel_rfl) (fun _ _ _ h=>h) ⟨.inl ⟨by rfl,fun w'=>by go_simp;with_reducible rfl⟩,by simp only [Qe,Q7,Qd,Q9,Q8,Qj,Qk];rfl,?_⟩;refine Qh 9 (some 73) (Qg 18 953) rfl rfl HT_.out (by kernel_rfl) (fun _ _ _ h=>h) ⟨.inl ⟨by rfl,fun w'=>by go_simp;with_reducible rfl⟩,by simp only [Qe,Q7,Qd,Q9,Q8,Qj,Qk];rfl,?_⟩;refine Y6 1 (some 65) (Qg 18 955) rfl rfl (Y4 HT_.out HW_.out (by kernel_rfl)) (fun _ _ _ h=>h) hHeld ⟨.inl ⟨by rfl,by rintro w' ⟨s0,s1,s2,s3,s4,s5,s6,s7,s8,s9,s10,s11,s12⟩;go_simp;with_reducible rfl⟩,by simp only [Qe,Q7,Qd,Q9,Q8,Qj,Qk];rfl,?_⟩;refine Y6 2 (some 66) (Qg 18 959) rfl rfl (Y4 HT_.out HW_.out (by kernel_rfl)) (fun _ _ _ h=>h) hHeld ⟨.inl ⟨by rfl,by rintro w' ⟨s0,s1,s2,s3,s4,s5,s6,s7,s8,s9,s10,s11,s12⟩;go_simp;with_reducible rfl⟩,by simp only [Qe,Q7,Qd,Q9,Q8,Qj,Qk];rfl,?_⟩;refine Y6 6 (some 70) (Qg 18 1023) rfl rfl (Y4 HT_.out HW_.out (by kernel_rfl)) (fun _ _ _ h=>h) hHeld ⟨.inl ⟨by rfl,by rintro w' ⟨s0,s1,s2,s3,s4,s5,s6,s7,s8,s9,s10,s11,s12⟩;go_simp;with_reducible rfl⟩,by simp only [Qe,Q7,Qd,Q9,Q8,Qj,Qk];rfl,?_⟩;refine Y6 10 (some 74) (Qg 18 2047) rfl rfl (Y4 HT_.out HW_.out (by kernel_rfl)) (fun _ _ _ h=>h) hHeld ⟨.inl ⟨by rfl,by rintro w' ⟨s0,s1,s2,s3,s4,s5,s6,s7,s8,s9,s10,s11,s12⟩;go_simp;with_reducible rfl⟩,by simp only [Qe,Q7,Qd,Q9,Q8,Qj,Qk];rfl,?_⟩;refine qqp (σ:=Nat) 2 (Qg 18 65535) (fun s_=>[(75,.tuple #[.int .i64 t171,.agg #[.int .i64 O1,.int .i64 t173,.int .i64 OR,.int .i64 t175,.int .i64 Ux,.int .i64 WJ]]),(16,.pointer (some ⟨s_,0,none⟩)),(63,.tuple #[.int .i64 t171,.agg #[.int .i64 O1,.int .i64 t173,.int .i64 OR,.int .i64 t175,.int .i64 Ux,.int .i64 WJ]]),(76,.int .i64 t171),(77,.agg #[.int .i64 O1,.int .i64 t173,.int .i64 OR,.int .i64 t175,.int .i64 Ux,.int .i64 WJ])]) (fun s_ w'=>(w'.cell? ⟨Z4,0,none⟩=some (.slice QT Qi.length QF)∧w'.cell? ⟨Z4,1,none⟩=some (.slice QR Qn.length QH)∧w'.cell? ⟨Z4,2,none⟩=some (.slice QV Ql.length QI)∧w'.cell? ⟨Z4,3,none⟩=some (.int .i64 QD)∧w'.cell? ⟨Z4,4,none⟩=some (.int .i64 QA)∧w'.cell? ⟨YE,0,none⟩=some (.int .i64 Zy)∧w'.cell? ⟨YE,1,none⟩=some (.int .i64 Zq)∧w'.cell? ⟨YE,2,none⟩=some (.int .i64 Zo)∧w'.cell? ⟨YE,3,none⟩=some (.int .i64 Zj)∧w'.cell? ⟨YE,4,none⟩=some (.int .i64 Zh)∧w'.cell? ⟨YE,5,none⟩=some (.int .i64 Zc)∧w'.cell? (qlU.add (Jk).toNat)=some (.int .i64 (rd l1 Jk))∧w'.cell? (qlV.add (Jk).toNat)=some (.int .i64 (rd l2 Jk)))∧(Kd.R (Kd.int .i64) 3 w' w.heap.size (fun k_=>(w.heap.size≤k_)) u13 GN)∧(w'.heap[J4]? = some (.cells #[.slice QT Qi.length QF,.slice QR Qn.length QH,.slice QV Ql.length QI,.int .i64 QD,.int .i64 QA] 39 (0,0)))∧(w'.heap[Z4]? = some (.cells #[.slice QT Qi.length QF,.slice QR Qn.length QH,.slice QV Ql.length QI,.int .i64 QD,.int .i64 QA] 111 (0,0)))∧(w'.heap[YE]? = some (.cells #[.int .i64 Zy,.int .i64 Zq,.int .i64 Zo,.int .i64 Zj,.int .i64 Zh,.int .i64 Zc] 115 (0,0)))∧(w'.heap[s_]? = some (.cells #[.int .i64 0,.int .i64 0,.int .i64 0,.int .i64 0,.int .i64 0,.int .i64 0] 115 (0,0)))∧(w.heap.size≤s_)∧(w.heap.size≤s_)∧(J4≠s_)∧(s_≠J4)∧(Z4≠s_)∧(s_≠Z4)∧(YE≠s_)∧(s_≠YE)∧(Below w.heap.size w w')) ?_ ?_;rotate_left
           ·
            intro hCont;refine two_ (i:=11) (j:=15) (Ni:=some 75) (Nj:=some 16) (Qg 18 4095) (Qg 18 34815) rfl rfl rfl rfl (qm9 HT_.out (by kernel_rfl)) (by decide) (by decide) (fun K hK => ?_) (fun K hK => ?_)
            ·
             skip
             refine qeY Try.func77 (by kernel_rfl) rfl #[.agg #[.slice QT Qi.length QF,.slice QR Qn.length QH,.slice QV Ql.length QI,.int .i64 QD,.int .i64 QA],.agg #[.int .i64 Zy,.int .i64 Zq,.int .i64 Zo,.int .i64 Zj,.int .i64 Zh,.int .i64 Zc],.int .i64 (rd l1 Jk),.int .i64 (rd l2 Jk)] 64 (by rfl) rfl rfl rfl (by (try simp only [List.map_toArray,List.map_cons,List.map_nil]);first|done|rfl|(simp only [List.length_drop,List.length_take];rfl)) ?_
             with_reducible refine (Zl.calls _ _ Qi _ _ Qn _ _ Ql QD QA Zy Zq Zo Zj Zh Zc (rd l1 Jk) (rd l2 Jk) t171 O1 t173 OR t175 Ux WJ _ ?side1 ?side2 ?side3 ?side4 ?side5 ?side6 A45.out).mono ?_
             (case side1=>repeat (first|exact (Kd.C_below ZU.out HB.out)|(with_reducible refine Kd.C_alloc ?_ _)|(with_reducible refine Kd.C_drewN ?_ _)|(with_reducible refine Kd.C_drew ?_)))
             (case side2=>exact JA.out)
             (case side3=>repeat (first|exact (Kd.C_below Jc.out HB.out)|(with_reducible refine Kd.C_alloc ?_ _)|(with_reducible refine Kd.C_drewN ?_ _)|(with_reducible refine Kd.C_drew ?_)))
             (case side4=>exact JC.out)
             (case side5=>repeat (first|exact (Kd.C_below Jg.out HB.out)|(with_reducible refine Kd.C_alloc ?_ _)|(with_reducible refine Kd.C_drewN ?_ _)|(with_reducible refine Kd.C_drew ?_)))
             (case side6=>exact JD.out)
             rintro e w48 ⟨rfl,hb⟩;refine ⟨_,rfl,?_⟩;have n0_:=Q0.mk (Kd.R_below (by (with_reducible repeat (first|apply Kd.R_alloc|apply Kd.R_drewN|apply Kd.R_drew));exact HO_13.out) hb);have n1_:=Q0.mk (Qp (g:=J4) (by (with_reducible repeat (first|refine Q3 ?_ _|refine Q6 ?_|refine Q2 ?_ _));exact Z1.out) hb);have n2_:=Q0.mk (Qp (g:=Z4) (by (with_reducible repeat (first|refine Q3 ?_ _|refine Q6 ?_|refine Q2 ?_ _));exact Yf.out) hb);have n3_:=Q0.mk (Qp (g:=YE) (by (with_reducible repeat (first|refine Q3 ?_ _|refine Q6 ?_|refine Q2 ?_ _));exact YJ.out) hb);have n4_:=Q0.mk (Qx (by repeat (first|(with_reducible first|exact HB.out|apply Q4|apply Q1|apply Qa|refine Q5 ?_ J1.out|refine Q5 ?_ Je.out|refine Q5 ?_ OM.out)|exact HB.out)) hb);clear HO_13 Z1 Yf YJ HB;have HO_13:=n0_;have Z1:=n1_;have Yf:=n2_;have YJ:=n3_;have HB:=n4_;clear n0_ n1_ n2_ n3_ n4_
             (try clear hb)
             (try clear hb2)
             (try clear hk)
             (try clear hi)
             refine hK.out _ _ ⟨(Qb Yf.out 0).trans rfl,(Qb Yf.out 1).trans rfl,(Qb Yf.out 2).trans rfl,(Qb Yf.out 3).trans rfl,(Qb Yf.out 4).trans rfl,(Qb YJ.out 0).trans rfl,(Qb YJ.out 1).trans rfl,(Qb YJ.out 2).trans rfl,(Qb YJ.out 3).trans rfl,(Qb YJ.out 4).trans rfl,(Qb YJ.out 5).trans rfl,((HB.out.cell (World.block_lt_of_cell? w _ Zu)).trans Zu),((HB.out.cell (World.block_lt_of_cell? w _ Zv)).trans Zv)⟩ (fun hHeld => ?_);clear hK K;refine Ka (a':=?_) ?_ ?_;rotate_left
             ·
              show Act.put _ (some 75) _=_
              simp only [Qe,Q7,Qd,Q9,Q8,Qj,Qk];rfl
             refine Qh 12 (some 63) (Qg 18 8191) rfl rfl HT_.out (by kernel_rfl) (fun _ _ _ h=>h) ⟨.inl ⟨by rfl,fun w'=>by go_simp;with_reducible rfl⟩,by simp only [Qe,Q7,Qd,Q9,Q8,Qj,Qk];rfl,?_⟩;refine Qh 13 (some 76) (Qg 18 16383) rfl rfl HT_.out (by kernel_rfl) (fun _ _ _ h=>h) ⟨.inl ⟨by rfl,fun w'=>by go_simp;with_reducible rfl⟩,by simp only [Qe,Q7,Qd,Q9,Q8,Qj,Qk];rfl,?_⟩;refine Qh 14 (some 77) (Qg 18 32767) rfl rfl HT_.out (by kernel_rfl) (fun _ _ _ h=>h) ⟨.inl ⟨by rfl,fun w'=>by go_simp;with_reducible rfl⟩,by simp only [Qe,Q7,Qd,Q9,Q8,Qj,Qk];rfl,?_⟩;refine one_ (i:=15) (N:=some 16) (Qg 18 65535) rfl rfl (Kt HT_.out (by kernel_rfl)) (by decide) (fun K hK => ?_);refine qaX ?hg (N:=16) ?hd (cs:=#[.int .i64 0,.int .i64 0,.int .i64 0,.int .i64 0,.int .i64 0,.int .i64 0]) (t:=115) ?hr ?_;(case hd=>rfl);(case hg=>rfl);(case hr=>first|(go_simp;done)|(go_simp;rfl));intro QX hg w49 hbox hb;have n0_:=Q0.mk (Kd.R_below (by (with_reducible repeat (first|apply Kd.R_alloc|apply Kd.R_drewN|apply Kd.R_drew));exact HO_13.out) hb);have n1_:=Q0.mk (Qp (g:=J4) (by (with_reducible repeat (first|refine Q3 ?_ _|refine Q6 ?_|refine Q2 ?_ _));exact Z1.out) hb);have n2_:=Q0.mk (Qp (g:=Z4) (by (with_reducible repeat (first|refine Q3 ?_ _|refine Q6 ?_|refine Q2 ?_ _));exact Yf.out) hb);have n3_:=Q0.mk (Qp (g:=YE) (by (with_reducible repeat (first|refine Q3 ?_ _|refine Q6 ?_|refine Q2 ?_ _));exact YJ.out) hb);have n4_:=Q0.mk (Qx (by repeat (first|(with_reducible first|exact HB.out|apply Q4|apply Q1|apply Qa|refine Q5 ?_ J1.out|refine Q5 ?_ Je.out|refine Q5 ?_ OM.out)|exact HB.out)) hb);have n5_:=Q0.mk (hbox);have n6_:=Q0.mk ((by rw [hg];exact (Qq (by repeat (first|(with_reducible first|exact HB.out|apply Q4|apply Q1|apply Qa|refine Q5 ?_ J1.out|refine Q5 ?_ Je.out|refine Q5 ?_ OM.out)|exact HB.out))):w.heap.size≤QX));have n7_:=n6_;have n8_:=Q0.mk ((by rw [hg];exact Nat.ne_of_lt (QY (g:=J4) (by (with_reducible repeat (first|refine Q3 ?_ _|refine Q6 ?_|refine Q2 ?_ _));exact Z1.out)):J4≠QX));have n9_:=Q0.mk (n8_.out.symm);have n10_:=Q0.mk ((by rw [hg];exact Nat.ne_of_lt (QY (g:=Z4) (by (with_reducible repeat (first|refine Q3 ?_ _|refine Q6 ?_|refine Q2 ?_ _));exact Yf.out)):Z4≠QX));have n11_:=Q0.mk (n10_.out.symm);have n12_:=Q0.mk ((by rw [hg];exact Nat.ne_of_lt (QY (g:=YE) (by (with_reducible repeat (first|refine Q3 ?_ _|refine Q6 ?_|refine Q2 ?_ _));exact YJ.out)):YE≠QX));have n13_:=Q0.mk (n12_.out.symm);clear HO_13 Z1 Yf YJ HB;have HO_13:=n0_;have Z1:=n1_;have Yf:=n2_;have YJ:=n3_;have HB:=n4_;have ZK:=n5_;have ZF:=n6_;have Xe:=n7_;have Ju:=n8_;have GR:=n9_;have Yz:=n10_;have GT:=n11_;have Yk:=n12_;have Ys:=n13_;clear n0_ n1_ n2_ n3_ n4_ n5_ n6_ n7_ n8_ n9_ n10_ n11_ n12_ n13_ hb hbox hg;refine hK.out _ _ ⟨(Qb Yf.out 0).trans rfl,(Qb Yf.out 1).trans rfl,(Qb Yf.out 2).trans rfl,(Qb Yf.out 3).trans rfl,(Qb Yf.out 4).trans rfl,(Qb YJ.out 0).trans rfl,(Qb YJ.out 1).trans rfl,(Qb YJ.out 2).trans rfl,(Qb YJ.out 3).trans rfl,(Qb YJ.out 4).trans rfl,(Qb YJ.out 5).trans rfl,((HB.out.cell (World.block_lt_of_cell? w _ Zu)).trans Zu),((HB.out.cell (World.block_lt_of_cell? w _ Zv)).trans Zv)⟩ (fun hHeld => ?_);clear hK K;refine Ka (a':=?_) ?_ ?_;rotate_left
             ·
              show Act.put _ (some 16) _=_
              simp only [Qe,Q7,Qd,Q9,Q8,Qj,Qk];rfl
             exact Ka (by simp only [X7,Act.put,List.setIfInBounds_toArray,List.set_cons_zero,List.set_cons_succ]) (hCont (QX) _ ⟨hHeld,(by (with_reducible repeat (first|apply Kd.R_alloc|apply Kd.R_drewN|apply Kd.R_drew));exact HO_13.out),(by (with_reducible repeat (first|refine Q3 ?_ _|refine Q6 ?_|refine Q2 ?_ _));exact Z1.out),(by (with_reducible repeat (first|refine Q3 ?_ _|refine Q6 ?_|refine Q2 ?_ _));exact Yf.out),(by (with_reducible repeat (first|refine Q3 ?_ _|refine Q6 ?_|refine Q2 ?_ _));exact YJ.out),(by (with_reducible repeat (first|refine Q3 ?_ _|refine Q6 ?_|refine Q2 ?_ _));exact ZK.out),ZF.out,Xe.out,Ju.out,GR.out,Yz.out,GT.out,Yk.out,Ys.out,(by repeat (first|(with_reducible first|exact HB.out|apply Q4|apply Q1|apply Qa|refine Q5 ?_ J1.out|refine Q5 ?_ Je.out|refine Q5 ?_ OM.out|refine Q5 ?_ Xe.out)|exact HB.out))⟩)
            skip
            refine qaX ?hg (N:=16) ?hd (cs:=#[.int .i64 0,.int .i64 0,.int .i64 0,.int .i64 0,.int .i64 0,.int .i64 0]) (t:=115) ?hr ?_;(case hd=>rfl);(case hg=>rfl);(case hr=>first|(go_simp;done)|(go_simp;rfl));intro QX hg w48 hbox hb;have n0_:=Q0.mk (Kd.R_below (by (with_reducible repeat (first|apply Kd.R_alloc|apply Kd.R_drewN|apply Kd.R_drew));exact HO_13.out) hb);have n1_:=Q0.mk (Qp (g:=J4) (by (with_reducible repeat (first|refine Q3 ?_ _|refine Q6 ?_|refine Q2 ?_ _));exact Z1.out) hb);have n2_:=Q0.mk (Qp (g:=Z4) (by (with_reducible repeat (first|refine Q3 ?_ _|refine Q6 ?_|refine Q2 ?_ _));exact Yf.out) hb);have n3_:=Q0.mk (Qp (g:=YE) (by (with_reducible repeat (first|refine Q3 ?_ _|refine Q6 ?_|refine Q2 ?_ _));exact YJ.out) hb);have n4_:=Q0.mk (Qx (by repeat (first|(with_reducible first|exact HB.out|apply Q4|apply Q1|apply Qa|refine Q5 ?_ J1.out|refine Q5 ?_ Je.out|refine Q5 ?_ OM.out)|exact HB.out)) hb);have n5_:=Q0.mk (hbox);have n6_:=Q0.mk ((by rw [hg];exact (Qq (by repeat (first|(with_reducible first|exact HB.out|apply Q4|apply Q1|apply Qa|refine Q5 ?_ J1.out|refine Q5 ?_ Je.out|refine Q5 ?_ OM.out)|exact HB.out))):w.heap.size≤QX));have n7_:=n6_;have n8_:=Q0.mk ((by rw [hg];exact Nat.ne_of_lt (QY (g:=J4) (by (with_reducible repeat (first|refine Q3 ?_ _|refine Q6 ?_|refine Q2 ?_ _));exact Z1.out)):J4≠QX));have n9_:=Q0.mk (n8_.out.symm);have n10_:=Q0.mk ((by rw [hg];exact Nat.ne_of_lt (QY (g:=Z4) (by (with_reducible repeat (first|refine Q3 ?_ _|refine Q6 ?_|refine Q2 ?_ _));exact Yf.out)):Z4≠QX));have n11_:=Q0.mk (n10_.out.symm);have n12_:=Q0.mk ((by rw [hg];exact Nat.ne_of_lt (QY (g:=YE) (by (with_reducible repeat (first|refine Q3 ?_ _|refine Q6 ?_|refine Q2 ?_ _));exact YJ.out)):YE≠QX));have n13_:=Q0.mk (n12_.out.symm);clear HO_13 Z1 Yf YJ HB;have HO_13:=n0_;have Z1:=n1_;have Yf:=n2_;have YJ:=n3_;have HB:=n4_;have ZK:=n5_;have ZF:=n6_;have Xe:=n7_;have Ju:=n8_;have GR:=n9_;have Yz:=n10_;have GT:=n11_;have Yk:=n12_;have Ys:=n13_;clear n0_ n1_ n2_ n3_ n4_ n5_ n6_ n7_ n8_ n9_ n10_ n11_ n12_ n13_ hb hbox hg;refine hK.out _ _ ⟨(Qb Yf.out 0).trans rfl,(Qb Yf.out 1).trans rfl,(Qb Yf.out 2).trans rfl,(Qb Yf.out 3).trans rfl,(Qb Yf.out 4).trans rfl,(Qb YJ.out 0).trans rfl,(Qb YJ.out 1).trans rfl,(Qb YJ.out 2).trans rfl,(Qb YJ.out 3).trans rfl,(Qb YJ.out 4).trans rfl,(Qb YJ.out 5).trans rfl,((HB.out.cell (World.block_lt_of_cell? w _ Zu)).trans Zu),((HB.out.cell (World.block_lt_of_cell? w _ Zv)).trans Zv)⟩ (fun hHeld => ?_);clear hK K;refine Ka (a':=?_) ?_ ?_;rotate_left
            ·
             show Act.put _ (some 16) _=_
             simp only [Qe,Q7,Qd,Q9,Q8,Qj,Qk];rfl
            refine one_ (i:=11) (N:=some 75) (Qg 18 36863) rfl rfl (Kt HT_.out (by kernel_rfl)) (by decide) (fun K hK => ?_);refine qeY Try.func77 (by kernel_rfl) rfl #[.agg #[.slice QT Qi.length QF,.slice QR Qn.length QH,.slice QV Ql.length QI,.int .i64 QD,.int .i64 QA],.agg #[.int .i64 Zy,.int .i64 Zq,.int .i64 Zo,.int .i64 Zj,.int .i64 Zh,.int .i64 Zc],.int .i64 (rd l1 Jk),.int .i64 (rd l2 Jk)] 64 (by rfl) rfl rfl rfl (by (try simp only [List.map_toArray,List.map_cons,List.map_nil]);first|done|rfl|(simp only [List.length_drop,List.length_take];rfl)) ?_
            with_reducible refine (Zl.calls _ _ Qi _ _ Qn _ _ Ql QD QA Zy Zq Zo Zj Zh Zc (rd l1 Jk) (rd l2 Jk) t171 O1 t173 OR t175 Ux WJ _ ?side1 ?side2 ?side3 ?side4 ?side5 ?side6 A45.out).mono ?_
            (case side1=>repeat (first|exact (Kd.C_below ZU.out HB.out)|(with_reducible refine Kd.C_alloc ?_ _)|(with_reducible refine Kd.C_drewN ?_ _)|(with_reducible refine Kd.C_drew ?_)))
            (case side2=>exact JA.out)
            (case side3=>repeat (first|exact (Kd.C_below Jc.out HB.out)|(with_reducible refine Kd.C_alloc ?_ _)|(with_reducible refine Kd.C_drewN ?_ _)|(with_reducible refine Kd.C_drew ?_)))
            (case side4=>exact JC.out)
            (case side5=>repeat (first|exact (Kd.C_below Jg.out HB.out)|(with_reducible refine Kd.C_alloc ?_ _)|(with_reducible refine Kd.C_drewN ?_ _)|(with_reducible refine Kd.C_drew ?_)))
            (case side6=>exact JD.out)
            rintro e w49 ⟨rfl,hb⟩;refine ⟨_,rfl,?_⟩;have n0_:=Q0.mk (Kd.R_below (by (with_reducible repeat (first|apply Kd.R_alloc|apply Kd.R_drewN|apply Kd.R_drew));exact HO_13.out) hb);have n1_:=Q0.mk (Qp (g:=J4) (by (with_reducible repeat (first|refine Q3 ?_ _|refine Q6 ?_|refine Q2 ?_ _));exact Z1.out) hb);have n2_:=Q0.mk (Qp (g:=Z4) (by (with_reducible repeat (first|refine Q3 ?_ _|refine Q6 ?_|refine Q2 ?_ _));exact Yf.out) hb);have n3_:=Q0.mk (Qp (g:=YE) (by (with_reducible repeat (first|refine Q3 ?_ _|refine Q6 ?_|refine Q2 ?_ _));exact YJ.out) hb);have n4_:=Q0.mk (Qp (g:=QX) (by (with_reducible repeat (first|refine Q3 ?_ _|refine Q6 ?_|refine Q2 ?_ _));exact ZK.out) hb);have n5_:=Q0.mk (Qx (by repeat (first|(with_reducible first|exact HB.out|apply Q4|apply Q1|apply Qa|refine Q5 ?_ J1.out|refine Q5 ?_ Je.out|refine Q5 ?_ OM.out|refine Q5 ?_ Xe.out)|exact HB.out)) hb);clear HO_13 Z1 Yf YJ ZK HB;have HO_13:=n0_;have Z1:=n1_;have Yf:=n2_;have YJ:=n3_;have ZK:=n4_;have HB:=n5_;clear n0_ n1_ n2_ n3_ n4_ n5_
            (try clear hb)
            (try clear hb2)
            (try clear hk)
            (try clear hi)
            refine hK.out _ _ ⟨(Qb Yf.out 0).trans rfl,(Qb Yf.out 1).trans rfl,(Qb Yf.out 2).trans rfl,(Qb Yf.out 3).trans rfl,(Qb Yf.out 4).trans rfl,(Qb YJ.out 0).trans rfl,(Qb YJ.out 1).trans rfl,(Qb YJ.out 2).trans rfl,(Qb YJ.out 3).trans rfl,(Qb YJ.out 4).trans rfl,(Qb YJ.out 5).trans rfl,((HB.out.cell (World.block_lt_of_cell? w _ Zu)).trans Zu),((HB.out.cell (World.block_lt_of_cell? w _ Zv)).trans Zv)⟩ (fun hHeld => ?_);clear hK K;refine Ka (a':=?_) ?_ ?_;rotate_left
            ·
             show Act.put _ (some 75) _=_
             simp only [Qe,Q7,Qd,Q9,Q8,Qj,Qk];rfl
            refine Qh 12 (some 63) (Qg 18 40959) rfl rfl HT_.out (by kernel_rfl) (fun _ _ _ h=>h) ⟨.inl ⟨by rfl,fun w'=>by go_simp;with_reducible rfl⟩,by simp only [Qe,Q7,Qd,Q9,Q8,Qj,Qk];rfl,?_⟩;refine Qh 13 (some 76) (Qg 18 49151) rfl rfl HT_.out (by kernel_rfl) (fun _ _ _ h=>h) ⟨.inl ⟨by rfl,fun w'=>by go_simp;with_reducible rfl⟩,by simp only [Qe,Q7,Qd,Q9,Q8,Qj,Qk];rfl,?_⟩;refine Qh 14 (some 77) (Qg 18 65535) rfl rfl HT_.out (by kernel_rfl) (fun _ _ _ h=>h) ⟨.inl ⟨by rfl,fun w'=>by go_simp;with_reducible rfl⟩,by simp only [Qe,Q7,Qd,Q9,Q8,Qj,Qk];rfl,?_⟩
            exact Ka (by simp only [X7,Act.put,List.setIfInBounds_toArray,List.set_cons_zero,List.set_cons_succ]) (hCont (QX) _ ⟨hHeld,(by (with_reducible repeat (first|apply Kd.R_alloc|apply Kd.R_drewN|apply Kd.R_drew));exact HO_13.out),(by (with_reducible repeat (first|refine Q3 ?_ _|refine Q6 ?_|refine Q2 ?_ _));exact Z1.out),(by (with_reducible repeat (first|refine Q3 ?_ _|refine Q6 ?_|refine Q2 ?_ _));exact Yf.out),(by (with_reducible repeat (first|refine Q3 ?_ _|refine Q6 ?_|refine Q2 ?_ _));exact YJ.out),(by (with_reducible repeat (first|refine Q3 ?_ _|refine Q6 ?_|refine Q2 ?_ _));exact ZK.out),ZF.out,Xe.out,Ju.out,GR.out,Yz.out,GT.out,Yk.out,Ys.out,(by repeat (first|(with_reducible first|exact HB.out|apply Q4|apply Q1|apply Qa|refine Q5 ?_ J1.out|refine Q5 ?_ Je.out|refine Q5 ?_ OM.out|refine Q5 ?_ Xe.out)|exact HB.out))⟩)
           rintro QX w50 ⟨hS_,h0_,h1_,h2_,h3_,h4_,h5_,h6_,h7_,h8_,h9_,h10_,h11_,h12_,h13_⟩;have n0_:Q0 (Kd.R (Kd.int .i64) 3 w50 w.heap.size (fun k_=>(w.heap.size≤k_)) u13 GN):=⟨h0_⟩;have n1_:Q0 (w50.heap[J4]? = some (.cells #[.slice QT Qi.length QF,.slice QR Qn.length QH,.slice QV Ql.length QI,.int .i64 QD,.int .i64 QA] 39 (0,0))):=⟨h1_⟩;have n2_:Q0 (w50.heap[Z4]? = some (.cells #[.slice QT Qi.length QF,.slice QR Qn.length QH,.slice QV Ql.length QI,.int .i64 QD,.int .i64 QA] 111 (0,0))):=⟨h2_⟩;have n3_:Q0 (w50.heap[YE]? = some (.cells #[.int .i64 Zy,.int .i64 Zq,.int .i64 Zo,.int .i64 Zj,.int .i64 Zh,.int .i64 Zc] 115 (0,0))):=⟨h3_⟩;have n4_:Q0 (w50.heap[QX]? = some (.cells #[.int .i64 0,.int .i64 0,.int .i64 0,.int .i64 0,.int .i64 0,.int .i64 0] 115 (0,0))):=⟨h4_⟩;have n5_:Q0 (w.heap.size≤QX):=⟨h5_⟩;have n6_:Q0 (w.heap.size≤QX):=⟨h6_⟩;have n7_:Q0 (J4≠QX):=⟨h7_⟩;have n8_:Q0 (QX≠J4):=⟨h8_⟩;have n9_:Q0 (Z4≠QX):=⟨h9_⟩;have n10_:Q0 (QX≠Z4):=⟨h10_⟩;have n11_:Q0 (YE≠QX):=⟨h11_⟩;have n12_:Q0 (QX≠YE):=⟨h12_⟩;have n13_:Q0 (Below w.heap.size w w50):=⟨h13_⟩;clear HO_13 Z1 Yf YJ HB h0_ h1_ h2_ h3_ h4_ h5_ h6_ h7_ h8_ h9_ h10_ h11_ h12_ h13_;have HO_13:=n0_;have Z1:=n1_;have Yf:=n2_;have YJ:=n3_;have ZK:=n4_;have ZF:=n5_;have Xe:=n6_;have Ju:=n7_;have GR:=n8_;have Yz:=n9_;have GT:=n10_;have Yk:=n11_;have Ys:=n12_;have HB:=n13_;clear n0_ n1_ n2_ n3_ n4_ n5_ n6_ n7_ n8_ n9_ n10_ n11_ n12_ n13_;have hHeld:w50.cell? ⟨Z4,0,none⟩=some (.slice QT Qi.length QF)∧w50.cell? ⟨Z4,1,none⟩=some (.slice QR Qn.length QH)∧w50.cell? ⟨Z4,2,none⟩=some (.slice QV Ql.length QI)∧w50.cell? ⟨Z4,3,none⟩=some (.int .i64 QD)∧w50.cell? ⟨Z4,4,none⟩=some (.int .i64 QA)∧w50.cell? ⟨YE,0,none⟩=some (.int .i64 Zy)∧w50.cell? ⟨YE,1,none⟩=some (.int .i64 Zq)∧w50.cell? ⟨YE,2,none⟩=some (.int .i64 Zo)∧w50.cell? ⟨YE,3,none⟩=some (.int .i64 Zj)∧w50.cell? ⟨YE,4,none⟩=some (.int .i64 Zh)∧w50.cell? ⟨YE,5,none⟩=some (.int .i64 Zc)∧w50.cell? (qlU.add (Jk).toNat)=some (.int .i64 (rd l1 Jk))∧w50.cell? (qlV.add (Jk).toNat)=some (.int .i64 (rd l2 Jk)):=hS_;refine Ka (a':=?_) ?_ ?_;rotate_left
           · simp only [X7,Act.put,List.setIfInBounds_toArray,List.set_cons_zero,List.set_cons_succ];rfl
           refine Qh 16 (some 15) (Qg 18 131071) rfl rfl HT_.out (by kernel_rfl) (fun _ _ _ h=>h) ⟨.inl ⟨by rfl,fun w'=>by go_simp;with_reducible rfl⟩,by simp only [Qe,Q7,Qd,Q9,Q8,Qj,Qk];rfl,?_⟩;refine one_ (i:=17) (N:=none) (Qg 18 262143) rfl rfl (Kt HT_.out (by kernel_rfl)) (by decide) (fun K hK => ?_);have qGs:w50.cell? ⟨QX,0,none⟩=some (.int .i64 0):=(Qb ZK.out 0).trans rfl;have qDS:=Qc ZK.out 0;have qAj:=Ju.out;have qAk:=Yz.out;have qAl:=Yk.out;have qzx:=GR.out;have qzy:=GT.out;have qzz:=Ys.out;have qGt:w50.cell? ⟨QX,1,none⟩=some (.int .i64 0):=(Qb ZK.out 1).trans rfl;have qDT:=Qc ZK.out 1;have qAm:=Ju.out;have qAn:=Yz.out;have qAo:=Yk.out;have qzA:=GR.out;have qzB:=GT.out;have qzC:=Ys.out;have qGu:w50.cell? ⟨QX,2,none⟩=some (.int .i64 0):=(Qb ZK.out 2).trans rfl;have qDU:=Qc ZK.out 2;have qAp:=Ju.out;have qAq:=Yz.out;have qAr:=Yk.out;have qzD:=GR.out;have qzE:=GT.out;have qzF:=Ys.out;have qGv:w50.cell? ⟨QX,3,none⟩=some (.int .i64 0):=(Qb ZK.out 3).trans rfl;have qDV:=Qc ZK.out 3;have qAs:=Ju.out;have qAt:=Yz.out;have qAu:=Yk.out;have qzG:=GR.out;have qzH:=GT.out;have qzI:=Ys.out;have qGw:w50.cell? ⟨QX,4,none⟩=some (.int .i64 0):=(Qb ZK.out 4).trans rfl;have qDW:=Qc ZK.out 4;have qAv:=Ju.out;have qAw:=Yz.out;have qAx:=Yk.out;have qzJ:=GR.out;have qzK:=GT.out;have qzL:=Ys.out;have qGx:w50.cell? ⟨QX,5,none⟩=some (.int .i64 0):=(Qb ZK.out 5).trans rfl;have qDX:=Qc ZK.out 5;have qAy:=Ju.out;have qAz:=Yz.out;have qAA:=Yk.out;have qzM:=GR.out;have qzN:=GT.out;have qzO:=Ys.out;refine qhg (w1:=?_) (by rfl) rfl ?_ ?_;rotate_left
           ·
            go_simp;rfl
           refine hK.out _ _ ⟨((Qw (p:=⟨QX,_,none⟩) Yz.out _).trans (((Qw (p:=⟨QX,_,none⟩) Yz.out _).trans (((Qw (p:=⟨QX,_,none⟩) Yz.out _).trans (((Qw (p:=⟨QX,_,none⟩) Yz.out _).trans (((Qw (p:=⟨QX,_,none⟩) Yz.out _).trans (((Qw (p:=⟨QX,_,none⟩) Yz.out _).trans (hHeld.1)))))))))))),((Qw (p:=⟨QX,_,none⟩) Yz.out _).trans (((Qw (p:=⟨QX,_,none⟩) Yz.out _).trans (((Qw (p:=⟨QX,_,none⟩) Yz.out _).trans (((Qw (p:=⟨QX,_,none⟩) Yz.out _).trans (((Qw (p:=⟨QX,_,none⟩) Yz.out _).trans (((Qw (p:=⟨QX,_,none⟩) Yz.out _).trans (hHeld.2.1)))))))))))),((Qw (p:=⟨QX,_,none⟩) Yz.out _).trans (((Qw (p:=⟨QX,_,none⟩) Yz.out _).trans (((Qw (p:=⟨QX,_,none⟩) Yz.out _).trans (((Qw (p:=⟨QX,_,none⟩) Yz.out _).trans (((Qw (p:=⟨QX,_,none⟩) Yz.out _).trans (((Qw (p:=⟨QX,_,none⟩) Yz.out _).trans (hHeld.2.2.1)))))))))))),((Qw (p:=⟨QX,_,none⟩) Yz.out _).trans (((Qw (p:=⟨QX,_,none⟩) Yz.out _).trans (((Qw (p:=⟨QX,_,none⟩) Yz.out _).trans (((Qw (p:=⟨QX,_,none⟩) Yz.out _).trans (((Qw (p:=⟨QX,_,none⟩) Yz.out _).trans (((Qw (p:=⟨QX,_,none⟩) Yz.out _).trans (hHeld.2.2.2.1)))))))))))),((Qw (p:=⟨QX,_,none⟩) Yz.out _).trans (((Qw (p:=⟨QX,_,none⟩) Yz.out _).trans (((Qw (p:=⟨QX,_,none⟩) Yz.out _).trans (((Qw (p:=⟨QX,_,none⟩) Yz.out _).trans (((Qw (p:=⟨QX,_,none⟩) Yz.out _).trans (((Qw (p:=⟨QX,_,none⟩) Yz.out _).trans (hHeld.2.2.2.2.1)))))))))))),((Qw (p:=⟨QX,_,none⟩) Yk.out _).trans (((Qw (p:=⟨QX,_,none⟩) Yk.out _).trans (((Qw (p:=⟨QX,_,none⟩) Yk.out _).trans (((Qw (p:=⟨QX,_,none⟩) Yk.out _).trans (((Qw (p:=⟨QX,_,none⟩) Yk.out _).trans (((Qw (p:=⟨QX,_,none⟩) Yk.out _).trans (hHeld.2.2.2.2.2.1)))))))))))),((Qw (p:=⟨QX,_,none⟩) Yk.out _).trans (((Qw (p:=⟨QX,_,none⟩) Yk.out _).trans (((Qw (p:=⟨QX,_,none⟩) Yk.out _).trans (((Qw (p:=⟨QX,_,none⟩) Yk.out _).trans (((Qw (p:=⟨QX,_,none⟩) Yk.out _).trans (((Qw (p:=⟨QX,_,none⟩) Yk.out _).trans (hHeld.2.2.2.2.2.2.1)))))))))))),((Qw (p:=⟨QX,_,none⟩) Yk.out _).trans (((Qw (p:=⟨QX,_,none⟩) Yk.out _).trans (((Qw (p:=⟨QX,_,none⟩) Yk.out _).trans (((Qw (p:=⟨QX,_,none⟩) Yk.out _).trans (((Qw (p:=⟨QX,_,none⟩) Yk.out _).trans (((Qw (p:=⟨QX,_,none⟩) Yk.out _).trans (hHeld.2.2.2.2.2.2.2.1)))))))))))),((Qw (p:=⟨QX,_,none⟩) Yk.out _).trans (((Qw (p:=⟨QX,_,none⟩) Yk.out _).trans (((Qw (p:=⟨QX,_,none⟩) Yk.out _).trans (((Qw (p:=⟨QX,_,none⟩) Yk.out _).trans (((Qw (p:=⟨QX,_,none⟩) Yk.out _).trans (((Qw (p:=⟨QX,_,none⟩) Yk.out _).trans (hHeld.2.2.2.2.2.2.2.2.1)))))))))))),((Qw (p:=⟨QX,_,none⟩) Yk.out _).trans (((Qw (p:=⟨QX,_,none⟩) Yk.out _).trans (((Qw (p:=⟨QX,_,none⟩) Yk.out _).trans (((Qw (p:=⟨QX,_,none⟩) Yk.out _).trans (((Qw (p:=⟨QX,_,none⟩) Yk.out _).trans (((Qw (p:=⟨QX,_,none⟩) Yk.out _).trans (hHeld.2.2.2.2.2.2.2.2.2.1)))))))))))),((Qw (p:=⟨QX,_,none⟩) Yk.out _).trans (((Qw (p:=⟨QX,_,none⟩) Yk.out _).trans (((Qw (p:=⟨QX,_,none⟩) Yk.out _).trans (((Qw (p:=⟨QX,_,none⟩) Yk.out _).trans (((Qw (p:=⟨QX,_,none⟩) Yk.out _).trans (((Qw (p:=⟨QX,_,none⟩) Yk.out _).trans (hHeld.2.2.2.2.2.2.2.2.2.2.1)))))))))))),((Qw (p:=⟨QX,_,none⟩) (by first|exact Nat.ne_of_lt (Nat.lt_of_lt_of_le (by have:=World.block_lt_of_cell? _ _ Zu;first|rwa [Qr] at this|exact this) ZF.out)|(rw [Qr];exact Nat.ne_of_lt (Nat.lt_of_lt_of_le (by have:=World.block_lt_of_cell? _ _ Zu;first|rwa [Qr] at this|exact this) ZF.out))|(show (Addr.add _ _).block≠_;rw [Qr];exact Nat.ne_of_lt (Nat.lt_of_lt_of_le (by have:=World.block_lt_of_cell? _ _ Zu;first|rwa [Qr] at this|exact this) ZF.out))|(dsimp only;exact Nat.ne_of_lt (Nat.lt_of_lt_of_le (by have:=World.block_lt_of_cell? _ _ Zu;first|rwa [Qr] at this|exact this) ZF.out))) _).trans (((Qw (p:=⟨QX,_,none⟩) (by first|exact Nat.ne_of_lt (Nat.lt_of_lt_of_le (by have:=World.block_lt_of_cell? _ _ Zu;first|rwa [Qr] at this|exact this) ZF.out)|(rw [Qr];exact Nat.ne_of_lt (Nat.lt_of_lt_of_le (by have:=World.block_lt_of_cell? _ _ Zu;first|rwa [Qr] at this|exact this) ZF.out))|(show (Addr.add _ _).block≠_;rw [Qr];exact Nat.ne_of_lt (Nat.lt_of_lt_of_le (by have:=World.block_lt_of_cell? _ _ Zu;first|rwa [Qr] at this|exact this) ZF.out))|(dsimp only;exact Nat.ne_of_lt (Nat.lt_of_lt_of_le (by have:=World.block_lt_of_cell? _ _ Zu;first|rwa [Qr] at this|exact this) ZF.out))) _).trans (((Qw (p:=⟨QX,_,none⟩) (by first|exact Nat.ne_of_lt (Nat.lt_of_lt_of_le (by have:=World.block_lt_of_cell? _ _ Zu;first|rwa [Qr] at this|exact this) ZF.out)|(rw [Qr];exact Nat.ne_of_lt (Nat.lt_of_lt_of_le (by have:=World.block_lt_of_cell? _ _ Zu;first|rwa [Qr] at this|exact this) ZF.out))|(show (Addr.add _ _).block≠_;rw [Qr];exact Nat.ne_of_lt (Nat.lt_of_lt_of_le (by have:=World.block_lt_of_cell? _ _ Zu;first|rwa [Qr] at this|exact this) ZF.out))|(dsimp only;exact Nat.ne_of_lt (Nat.lt_of_lt_of_le (by have:=World.block_lt_of_cell? _ _ Zu;first|rwa [Qr] at this|exact this) ZF.out))) _).trans (((Qw (p:=⟨QX,_,none⟩) (by first|exact Nat.ne_of_lt (Nat.lt_of_lt_of_le (by have:=World.block_lt_of_cell? _ _ Zu;first|rwa [Qr] at this|exact this) ZF.out)|(rw [Qr];exact Nat.ne_of_lt (Nat.lt_of_lt_of_le (by have:=World.block_lt_of_cell? _ _ Zu;first|rwa [Qr] at this|exact this) ZF.out))|(show (Addr.add _ _).block≠_;rw [Qr];exact Nat.ne_of_lt (Nat.lt_of_lt_of_le (by have:=World.block_lt_of_cell? _ _ Zu;first|rwa [Qr] at this|exact this) ZF.out))|(dsimp only;exact Nat.ne_of_lt (Nat.lt_of_lt_of_le (by have:=World.block_lt_of_cell? _ _ Zu;first|rwa [Qr] at this|exact this) ZF.out))) _).trans (((Qw (p:=⟨QX,_,none⟩) (by first|exact Nat.ne_of_lt (Nat.lt_of_lt_of_le (by have:=World.block_lt_of_cell? _ _ Zu;first|rwa [Qr] at this|exact this) ZF.out)|(rw [Qr];exact Nat.ne_of_lt (Nat.lt_of_lt_of_le (by have:=World.block_lt_of_cell? _ _ Zu;first|rwa [Qr] at this|exact this) ZF.out))|(show (Addr.add _ _).block≠_;rw [Qr];exact Nat.ne_of_lt (Nat.lt_of_lt_of_le (by have:=World.block_lt_of_cell? _ _ Zu;first|rwa [Qr] at this|exact this) ZF.out))|(dsimp only;exact Nat.ne_of_lt (Nat.lt_of_lt_of_le (by have:=World.block_lt_of_cell? _ _ Zu;first|rwa [Qr] at this|exact this) ZF.out))) _).trans (((Qw (p:=⟨QX,_,none⟩) (by first|exact Nat.ne_of_lt (Nat.lt_of_lt_of_le (by have:=World.block_lt_of_cell? _ _ Zu;first|rwa [Qr] at this|exact this) ZF.out)|(rw [Qr];exact Nat.ne_of_lt (Nat.lt_of_lt_of_le (by have:=World.block_lt_of_cell? _ _ Zu;first|rwa [Qr] at this|exact this) ZF.out))|(show (Addr.add _ _).block≠_;rw [Qr];exact Nat.ne_of_lt (Nat.lt_of_lt_of_le (by have:=World.block_lt_of_cell? _ _ Zu;first|rwa [Qr] at this|exact this) ZF.out))|(dsimp only;exact Nat.ne_of_lt (Nat.lt_of_lt_of_le (by have:=World.block_lt_of_cell? _ _ Zu;first|rwa [Qr] at this|exact this) ZF.out))) _).trans (hHeld.2.2.2.2.2.2.2.2.2.2.2.1)))))))))))),((Qw (p:=⟨QX,_,none⟩) (by first|exact Nat.ne_of_lt (Nat.lt_of_lt_of_le (by have:=World.block_lt_of_cell? _ _ Zv;first|rwa [Qr] at this|exact this) ZF.out)|(rw [Qr];exact Nat.ne_of_lt (Nat.lt_of_lt_of_le (by have:=World.block_lt_of_cell? _ _ Zv;first|rwa [Qr] at this|exact this) ZF.out))|(show (Addr.add _ _).block≠_;rw [Qr];exact Nat.ne_of_lt (Nat.lt_of_lt_of_le (by have:=World.block_lt_of_cell? _ _ Zv;first|rwa [Qr] at this|exact this) ZF.out))|(dsimp only;exact Nat.ne_of_lt (Nat.lt_of_lt_of_le (by have:=World.block_lt_of_cell? _ _ Zv;first|rwa [Qr] at this|exact this) ZF.out))) _).trans (((Qw (p:=⟨QX,_,none⟩) (by first|exact Nat.ne_of_lt (Nat.lt_of_lt_of_le (by have:=World.block_lt_of_cell? _ _ Zv;first|rwa [Qr] at this|exact this) ZF.out)|(rw [Qr];exact Nat.ne_of_lt (Nat.lt_of_lt_of_le (by have:=World.block_lt_of_cell? _ _ Zv;first|rwa [Qr] at this|exact this) ZF.out))|(show (Addr.add _ _).block≠_;rw [Qr];exact Nat.ne_of_lt (Nat.lt_of_lt_of_le (by have:=World.block_lt_of_cell? _ _ Zv;first|rwa [Qr] at this|exact this) ZF.out))|(dsimp only;exact Nat.ne_of_lt (Nat.lt_of_lt_of_le (by have:=World.block_lt_of_cell? _ _ Zv;first|rwa [Qr] at this|exact this) ZF.out))) _).trans (((Qw (p:=⟨QX,_,none⟩) (by first|exact Nat.ne_of_lt (Nat.lt_of_lt_of_le (by have:=World.block_lt_of_cell? _ _ Zv;first|rwa [Qr] at this|exact this) ZF.out)|(rw [Qr];exact Nat.ne_of_lt (Nat.lt_of_lt_of_le (by have:=World.block_lt_of_cell? _ _ Zv;first|rwa [Qr] at this|exact this) ZF.out))|(show (Addr.add _ _).block≠_;rw [Qr];exact Nat.ne_of_lt (Nat.lt_of_lt_of_le (by have:=World.block_lt_of_cell? _ _ Zv;first|rwa [Qr] at this|exact this) ZF.out))|(dsimp only;exact Nat.ne_of_lt (Nat.lt_of_lt_of_le (by have:=World.block_lt_of_cell? _ _ Zv;first|rwa [Qr] at this|exact this) ZF.out))) _).trans (((Qw (p:=⟨QX,_,none⟩) (by first|exact Nat.ne_of_lt (Nat.lt_of_lt_of_le (by have:=World.block_lt_of_cell? _ _ Zv;first|rwa [Qr] at this|exact this) ZF.out)|(rw [Qr];exact Nat.ne_of_lt (Nat.lt_of_lt_of_le (by have:=World.block_lt_of_cell? _ _ Zv;first|rwa [Qr] at this|exact this) ZF.out))|(show (Addr.add _ _).block≠_;rw [Qr];exact Nat.ne_of_lt (Nat.lt_of_lt_of_le (by have:=World.block_lt_of_cell? _ _ Zv;first|rwa [Qr] at this|exact this) ZF.out))|(dsimp only;exact Nat.ne_of_lt (Nat.lt_of_lt_of_le (by have:=World.block_lt_of_cell? _ _ Zv;first|rwa [Qr] at this|exact this) ZF.out))) _).trans (((Qw (p:=⟨QX,_,none⟩) (by first|exact Nat.ne_of_lt (Nat.lt_of_lt_of_le (by have:=World.block_lt_of_cell? _ _ Zv;first|rwa [Qr] at this|exact this) ZF.out)|(rw [Qr];exact Nat.ne_of_lt (Nat.lt_of_lt_of_le (by have:=World.block_lt_of_cell? _ _ Zv;first|rwa [Qr] at this|exact this) ZF.out))|(show (Addr.add _ _).block≠_;rw [Qr];exact Nat.ne_of_lt (Nat.lt_of_lt_of_le (by have:=World.block_lt_of_cell? _ _ Zv;first|rwa [Qr] at this|exact this) ZF.out))|(dsimp only;exact Nat.ne_of_lt (Nat.lt_of_lt_of_le (by have:=World.block_lt_of_cell? _ _ Zv;first|rwa [Qr] at this|exact this) ZF.out))) _).trans (((Qw (p:=⟨QX,_,none⟩) (by first|exact Nat.ne_of_lt (Nat.lt_of_lt_of_le (by have:=World.block_lt_of_cell? _ _ Zv;first|rwa [Qr] at this|exact this) ZF.out)|(rw [Qr];exact Nat.ne_of_lt (Nat.lt_of_lt_of_le (by have:=World.block_lt_of_cell? _ _ Zv;first|rwa [Qr] at this|exact this) ZF.out))|(show (Addr.add _ _).block≠_;rw [Qr];exact Nat.ne_of_lt (Nat.lt_of_lt_of_le (by have:=World.block_lt_of_cell? _ _ Zv;first|rwa [Qr] at this|exact this) ZF.out))|(dsimp only;exact Nat.ne_of_lt (Nat.lt_of_lt_of_le (by have:=World.block_lt_of_cell? _ _ Zv;first|rwa [Qr] at this|exact this) ZF.out))) _).trans (hHeld.2.2.2.2.2.2.2.2.2.2.2.2))))))))))))⟩ (fun hHeld => ?_);clear hK K;refine OQ (Gp HT_.out (by kernel_rfl)) ?_
           try go_wp2
           have n0_:Q0 (Kd.R (Kd.int .i64) 3 ((((((w50.setCell ⟨QX,0,none⟩ (.int .i64 O1)).setCell ⟨QX,1,none⟩ (.int .i64 t173)).setCell ⟨QX,2,none⟩ (.int .i64 OR)).setCell ⟨QX,3,none⟩ (.int .i64 t175)).setCell ⟨QX,4,none⟩ (.int .i64 Ux)).setCell ⟨QX,5,none⟩ (.int .i64 WJ)) w.heap.size (fun k_=>(w.heap.size≤k_)) u13 GN):=⟨by (with_reducible repeat (first|apply Kd.R_alloc|apply Kd.R_drewN|apply Kd.R_drew));exact Kd.R_mono (Kd.R_far (p:=⟨QX,5,none⟩) (Kd.R_far (p:=⟨QX,4,none⟩) (Kd.R_far (p:=⟨QX,3,none⟩) (Kd.R_far (p:=⟨QX,2,none⟩) (Kd.R_far (p:=⟨QX,1,none⟩) (Kd.R_far (p:=⟨QX,0,none⟩) (Kd.R_types HO_13.out ZK.out (by decide)) (fun _ hk=>hk.2) (.int .i64 O1)) (fun _ hk=>hk.2) (.int .i64 t173)) (fun _ hk=>hk.2) (.int .i64 OR)) (fun _ hk=>hk.2) (.int .i64 t175)) (fun _ hk=>hk.2) (.int .i64 Ux)) (fun _ hk=>hk.2) (.int .i64 WJ)) (fun _ hk=>hk.1)⟩;have n1_:Q0 (((((((w50.setCell ⟨QX,0,none⟩ (.int .i64 O1)).setCell ⟨QX,1,none⟩ (.int .i64 t173)).setCell ⟨QX,2,none⟩ (.int .i64 OR)).setCell ⟨QX,3,none⟩ (.int .i64 t175)).setCell ⟨QX,4,none⟩ (.int .i64 Ux)).setCell ⟨QX,5,none⟩ (.int .i64 WJ)).heap[J4]? = some (.cells #[.slice QT Qi.length QF,.slice QR Qn.length QH,.slice QV Ql.length QI,.int .i64 QD,.int .i64 QA] 39 (0,0))):=⟨by (with_reducible repeat (first|refine Q3 ?_ _|refine Q6 ?_|refine Q2 ?_ _));refine Qu ?_ Ju.out _;(with_reducible repeat (first|refine Q3 ?_ _|refine Q6 ?_|refine Q2 ?_ _));refine Qu ?_ Ju.out _;(with_reducible repeat (first|refine Q3 ?_ _|refine Q6 ?_|refine Q2 ?_ _));refine Qu ?_ Ju.out _;(with_reducible repeat (first|refine Q3 ?_ _|refine Q6 ?_|refine Q2 ?_ _));refine Qu ?_ Ju.out _;(with_reducible repeat (first|refine Q3 ?_ _|refine Q6 ?_|refine Q2 ?_ _));refine Qu ?_ Ju.out _;(with_reducible repeat (first|refine Q3 ?_ _|refine Q6 ?_|refine Q2 ?_ _));refine Qu ?_ Ju.out _;(with_reducible repeat (first|refine Q3 ?_ _|refine Q6 ?_|refine Q2 ?_ _));exact Z1.out⟩;have n2_:Q0 (((((((w50.setCell ⟨QX,0,none⟩ (.int .i64 O1)).setCell ⟨QX,1,none⟩ (.int .i64 t173)).setCell ⟨QX,2,none⟩ (.int .i64 OR)).setCell ⟨QX,3,none⟩ (.int .i64 t175)).setCell ⟨QX,4,none⟩ (.int .i64 Ux)).setCell ⟨QX,5,none⟩ (.int .i64 WJ)).heap[Z4]? = some (.cells #[.slice QT Qi.length QF,.slice QR Qn.length QH,.slice QV Ql.length QI,.int .i64 QD,.int .i64 QA] 111 (0,0))):=⟨by (with_reducible repeat (first|refine Q3 ?_ _|refine Q6 ?_|refine Q2 ?_ _));refine Qu ?_ Yz.out _;(with_reducible repeat (first|refine Q3 ?_ _|refine Q6 ?_|refine Q2 ?_ _));refine Qu ?_ Yz.out _;(with_reducible repeat (first|refine Q3 ?_ _|refine Q6 ?_|refine Q2 ?_ _));refine Qu ?_ Yz.out _;(with_reducible repeat (first|refine Q3 ?_ _|refine Q6 ?_|refine Q2 ?_ _));refine Qu ?_ Yz.out _;(with_reducible repeat (first|refine Q3 ?_ _|refine Q6 ?_|refine Q2 ?_ _));refine Qu ?_ Yz.out _;(with_reducible repeat (first|refine Q3 ?_ _|refine Q6 ?_|refine Q2 ?_ _));refine Qu ?_ Yz.out _;(with_reducible repeat (first|refine Q3 ?_ _|refine Q6 ?_|refine Q2 ?_ _));exact Yf.out⟩;have n3_:Q0 (((((((w50.setCell ⟨QX,0,none⟩ (.int .i64 O1)).setCell ⟨QX,1,none⟩ (.int .i64 t173)).setCell ⟨QX,2,none⟩ (.int .i64 OR)).setCell ⟨QX,3,none⟩ (.int .i64 t175)).setCell ⟨QX,4,none⟩ (.int .i64 Ux)).setCell ⟨QX,5,none⟩ (.int .i64 WJ)).heap[YE]? = some (.cells #[.int .i64 Zy,.int .i64 Zq,.int .i64 Zo,.int .i64 Zj,.int .i64 Zh,.int .i64 Zc] 115 (0,0))):=⟨by (with_reducible repeat (first|refine Q3 ?_ _|refine Q6 ?_|refine Q2 ?_ _));refine Qu ?_ Yk.out _;(with_reducible repeat (first|refine Q3 ?_ _|refine Q6 ?_|refine Q2 ?_ _));refine Qu ?_ Yk.out _;(with_reducible repeat (first|refine Q3 ?_ _|refine Q6 ?_|refine Q2 ?_ _));refine Qu ?_ Yk.out _;(with_reducible repeat (first|refine Q3 ?_ _|refine Q6 ?_|refine Q2 ?_ _));refine Qu ?_ Yk.out _;(with_reducible repeat (first|refine Q3 ?_ _|refine Q6 ?_|refine Q2 ?_ _));refine Qu ?_ Yk.out _;(with_reducible repeat (first|refine Q3 ?_ _|refine Q6 ?_|refine Q2 ?_ _));refine Qu ?_ Yk.out _;(with_reducible repeat (first|refine Q3 ?_ _|refine Q6 ?_|refine Q2 ?_ _));exact YJ.out⟩;have n4_:Q0 (((((((w50.setCell ⟨QX,0,none⟩ (.int .i64 O1)).setCell ⟨QX,1,none⟩ (.int .i64 t173)).setCell ⟨QX,2,none⟩ (.int .i64 OR)).setCell ⟨QX,3,none⟩ (.int .i64 t175)).setCell ⟨QX,4,none⟩ (.int .i64 Ux)).setCell ⟨QX,5,none⟩ (.int .i64 WJ)).heap[QX]? = some (.cells #[.int .i64 O1,.int .i64 t173,.int .i64 OR,.int .i64 t175,.int .i64 Ux,.int .i64 WJ] 115 (0,0))):=⟨by (with_reducible repeat (first|refine Q3 ?_ _|refine Q6 ?_|refine Q2 ?_ _));refine QJ (cs:=#[.int .i64 O1,.int .i64 t173,.int .i64 OR,.int .i64 t175,.int .i64 Ux,.int .i64 0]) ?_ 5 _ rfl;(with_reducible repeat (first|refine Q3 ?_ _|refine Q6 ?_|refine Q2 ?_ _));refine QJ (cs:=#[.int .i64 O1,.int .i64 t173,.int .i64 OR,.int .i64 t175,.int .i64 0,.int .i64 0]) ?_ 4 _ rfl;(with_reducible repeat (first|refine Q3 ?_ _|refine Q6 ?_|refine Q2 ?_ _));refine QJ (cs:=#[.int .i64 O1,.int .i64 t173,.int .i64 OR,.int .i64 0,.int .i64 0,.int .i64 0]) ?_ 3 _ rfl;(with_reducible repeat (first|refine Q3 ?_ _|refine Q6 ?_|refine Q2 ?_ _));refine QJ (cs:=#[.int .i64 O1,.int .i64 t173,.int .i64 0,.int .i64 0,.int .i64 0,.int .i64 0]) ?_ 2 _ rfl;(with_reducible repeat (first|refine Q3 ?_ _|refine Q6 ?_|refine Q2 ?_ _));refine QJ (cs:=#[.int .i64 O1,.int .i64 0,.int .i64 0,.int .i64 0,.int .i64 0,.int .i64 0]) ?_ 1 _ rfl;(with_reducible repeat (first|refine Q3 ?_ _|refine Q6 ?_|refine Q2 ?_ _));refine QJ (cs:=#[.int .i64 0,.int .i64 0,.int .i64 0,.int .i64 0,.int .i64 0,.int .i64 0]) ?_ 0 _ rfl;(with_reducible repeat (first|refine Q3 ?_ _|refine Q6 ?_|refine Q2 ?_ _));exact ZK.out⟩;have n5_:Q0 (Below w.heap.size w ((((((w50.setCell ⟨QX,0,none⟩ (.int .i64 O1)).setCell ⟨QX,1,none⟩ (.int .i64 t173)).setCell ⟨QX,2,none⟩ (.int .i64 OR)).setCell ⟨QX,3,none⟩ (.int .i64 t175)).setCell ⟨QX,4,none⟩ (.int .i64 Ux)).setCell ⟨QX,5,none⟩ (.int .i64 WJ))):=⟨by repeat (first|(with_reducible first|exact HB.out|apply Q4|apply Q1|apply Qa|refine Q5 ?_ J1.out|refine Q5 ?_ Je.out|refine Q5 ?_ OM.out|refine Q5 ?_ Xe.out)|exact HB.out)⟩
           (try clear HO_13)
           (try clear Z1)
           (try clear Yf)
           (try clear YJ)
           (try clear ZK)
           (try clear HB)
           generalize ((((((w50.setCell ⟨QX,0,none⟩ (.int .i64 O1)).setCell ⟨QX,1,none⟩ (.int .i64 t173)).setCell ⟨QX,2,none⟩ (.int .i64 OR)).setCell ⟨QX,3,none⟩ (.int .i64 t175)).setCell ⟨QX,4,none⟩ (.int .i64 Ux)).setCell ⟨QX,5,none⟩ (.int .i64 WJ))=w57 at n0_ n1_ n2_ n3_ n4_ n5_ ⊢
           have HO_13:=n0_;have Z1:=n1_;have Yf:=n2_;have YJ:=n3_;have ZK:=n4_;have HB:=n5_;clear n0_ n1_ n2_ n3_ n4_ n5_;have n0_:=Q0.mk (Kd.R_drew HO_13.out);have n1_:=Q0.mk (Q6 Z1.out);have n2_:=Q0.mk (Q6 Yf.out);have n3_:=Q0.mk (Q6 YJ.out);have n4_:=Q0.mk (Q6 ZK.out);have n5_:=Q0.mk (Qa HB.out);clear HO_13 Z1 Yf YJ ZK HB;have HO_13:=n0_;have Z1:=n1_;have Yf:=n2_;have YJ:=n3_;have ZK:=n4_;have HB:=n5_;clear n0_ n1_ n2_ n3_ n4_ n5_;refine Km (n:=7) (S:=fun w'=>w'.cell? ⟨QX,0,none⟩=some (.int .i64 O1)∧w'.cell? ⟨QX,1,none⟩=some (.int .i64 t173)∧w'.cell? ⟨QX,2,none⟩=some (.int .i64 OR)∧w'.cell? ⟨QX,3,none⟩=some (.int .i64 t175)∧w'.cell? ⟨QX,4,none⟩=some (.int .i64 Ux)∧w'.cell? ⟨QX,5,none⟩=some (.int .i64 WJ)) (ds:=[]) (Qg 7 0) (by kernel_rfl) rfl rfl ⟨(Qb ZK.out 0).trans rfl,(Qb ZK.out 1).trans rfl,(Qb ZK.out 2).trans rfl,(Qb ZK.out 3).trans rfl,(Qb ZK.out 4).trans rfl,(Qb ZK.out 5).trans rfl⟩ (fun hHeld => ?_)
           generalize w57.drew=w58 at HO_13 Z1 Yf YJ ZK HB hHeld ⊢
           refine qkm (i:=0) (N:=some 78) (v:=?_) (a':=?_) (Qg 7 1) rfl rfl (by kernel_rfl) (fun _ _ _ h=>h) (Or.inl ⟨by rfl,?_⟩) ?_ ?_;rotate_left
           · intro w';go_simp;with_reducible rfl
           rotate_left
           · simp only [Qe,Q7,Qd,Q9,Q8,Qj,Qk];rfl
           refine qkm (i:=1) (N:=some 79) (v:=?_) (a':=?_) (Qg 7 3) rfl rfl (by kernel_rfl) (fun _ _ _ h=>h) (Or.inl ⟨by rfl,?_⟩) ?_ ?_;rotate_left
           · intro w';go_simp;with_reducible rfl
           rotate_left
           · simp only [Qe,Q7,Qd,Q9,Q8,Qj,Qk];rfl
           refine qm7 (i:=4) (N:=some 82) (v:=?_) (a':=?_) (Qg 7 19) rfl rfl (by kernel_rfl) (fun _ _ _ h=>h) (Or.inl ⟨by rfl,?_⟩) hHeld ?_ ?_;rotate_left
           · rintro w' ⟨s0,s1,s2,s3,s4,s5⟩;go_simp;with_reducible rfl
           rotate_left
           · simp only [Qe,Q7,Qd,Q9,Q8,Qj,Qk];rfl
           refine one_ (i:=2) (N:=some 80) (Qg 7 23) rfl rfl (by kernel_rfl) (by decide) (fun K hK => ?_);refine qiW (w1:=?_) (v:=?_) (by rfl) rfl ?_ ?_
           rotate_left 2
           ·
            go_simp
            constructor
            · rfl
            rfl
           refine hK.out _ _ ⟨(Qb (Q2 ZK.out _) 0).trans rfl,(Qb (Q2 ZK.out _) 1).trans rfl,(Qb (Q2 ZK.out _) 2).trans rfl,(Qb (Q2 ZK.out _) 3).trans rfl,(Qb (Q2 ZK.out _) 4).trans rfl,(Qb (Q2 ZK.out _) 5).trans rfl⟩ (fun hHeld => ?_);clear hK K;refine Ka (a':=?_) ?_ ?_;rotate_left
           ·
            show Act.put _ (some 80) _=_
            simp only [Qe,Q7,Qd,Q9,Q8,Qj,Qk];rfl
           refine one_ (i:=3) (N:=some 81) (Qg 7 31) rfl rfl (by kernel_rfl) (by decide) (fun K hK => ?_);refine Kd.R_append_step (Kd.int .i64) (w0:=w) w.heap.size (by rfl) (.tmp 78) (.tmp 80) 37 3 (.int .i64 0) 8 rfl Try.underlying37 qaj rfl (by decide) (by omega) u13 GN t171 [.int .i64 t171] (fun k_=>(w.heap.size≤k_)) (fun _=>False) rfl rfl ?aP (fun _ hk=>hk.elim) ?aF ?aO ?aB ?aS ?aL ?_
           (case aP=>exact rfl)
           (case aB=>exact (by repeat (first|(with_reducible first|exact HB.out|apply Q4|apply Q1|apply Qa|refine Q5 ?_ J1.out|refine Q5 ?_ Je.out|refine Q5 ?_ OM.out|refine Q5 ?_ Xe.out)|exact HB.out)))
           (case aF=>exact (fun k_ hk=>(Nat.le_trans (Qq (by repeat (first|(with_reducible first|exact HB.out|apply Q4|apply Q1|apply Qa|refine Q5 ?_ J1.out|refine Q5 ?_ Je.out|refine Q5 ?_ OM.out|refine Q5 ?_ Xe.out)|exact HB.out))) hk)))
           (case aO=>exact (by (with_reducible repeat (first|apply Kd.R_alloc|apply Kd.R_drewN|apply Kd.R_drew));exact HO_13.out))
           (case aS=>exact (Qq (by repeat (first|(with_reducible first|exact HB.out|apply Q4|apply Q1|apply Qa|refine Q5 ?_ J1.out|refine Q5 ?_ Je.out|refine Q5 ?_ OM.out|refine Q5 ?_ Xe.out)|exact HB.out))))
           (case aL=>have:=qso.out;omega)
           intro qGP w59 ho hb hg hat;rw [← qsp.out] at ho;have n0_:=Q0.mk (Jv (g:=J4) (by (with_reducible repeat (first|refine Q3 ?_ _|refine Q6 ?_|refine Q2 ?_ _));exact Z1.out) hg (Kd.R_ne HO_13.out Z1.out (by decide)));have n1_:=Q0.mk (Jv (g:=Z4) (by (with_reducible repeat (first|refine Q3 ?_ _|refine Q6 ?_|refine Q2 ?_ _));exact Yf.out) hg (Kd.R_ne HO_13.out Yf.out (by decide)));have n2_:=Q0.mk (Jv (g:=YE) (by (with_reducible repeat (first|refine Q3 ?_ _|refine Q6 ?_|refine Q2 ?_ _));exact YJ.out) hg (Kd.R_ne HO_13.out YJ.out (by decide)));have n3_:=Q0.mk (Jv (g:=QX) (by (with_reducible repeat (first|refine Q3 ?_ _|refine Q6 ?_|refine Q2 ?_ _));exact ZK.out) hg (Kd.R_ne HO_13.out ZK.out (by decide)));have n4_:=Q0.mk (hb);have n5_:=Q0.mk (ho);clear Z1 Yf YJ ZK HB HO_13;have Z1:=n0_;have Yf:=n1_;have YJ:=n2_;have ZK:=n3_;have HB:=n4_;have qsc:=n5_;clear n0_ n1_ n2_ n3_ n4_ n5_ ho hb hg hat;refine hK.out _ _ ⟨(Qb ZK.out 0).trans rfl,(Qb ZK.out 1).trans rfl,(Qb ZK.out 2).trans rfl,(Qb ZK.out 3).trans rfl,(Qb ZK.out 4).trans rfl,(Qb ZK.out 5).trans rfl⟩ (fun hHeld => ?_);clear hK K;refine Ka (a':=?_) ?_ ?_;rotate_left
           ·
            show Act.put _ (some 81) _=_
            simp only [Qe,Q7,Qd,Q9,Q8,Qj,Qk];rfl
           refine qkm (i:=5) (N:=some 13) (v:=?_) (a':=?_) (Qg 7 63) rfl rfl (by kernel_rfl) (fun _ _ _ h=>h) (Or.inl ⟨by rfl,?_⟩) ?_ ?_;rotate_left
           · intro w';go_simp;with_reducible rfl
           rotate_left
           · simp only [Qe,Q7,Qd,Q9,Q8,Qj,Qk];rfl
           refine one_ (i:=6) (N:=none) (Qg 7 127) rfl rfl (by kernel_rfl) (by decide) (fun K hK => ?_);have qGy:w59.cell? ⟨YE,0,none⟩=some (.int .i64 Zy):=(Qb YJ.out 0).trans rfl;have qDY:=Qc YJ.out 0;have qAB:=ZW.out;have qAC:=ZX.out;have qAD:=Ys.out;have qzP:=Ol.out;have qzQ:=Om.out;have qzR:=Yk.out;have qGz:w59.cell? ⟨YE,1,none⟩=some (.int .i64 Zq):=(Qb YJ.out 1).trans rfl;have qDZ:=Qc YJ.out 1;have qAE:=ZW.out;have qAF:=ZX.out;have qAG:=Ys.out;have qzS:=Ol.out;have qzT:=Om.out;have qzU:=Yk.out;have qGA:w59.cell? ⟨YE,2,none⟩=some (.int .i64 Zo):=(Qb YJ.out 2).trans rfl;have qD0:=Qc YJ.out 2;have qAH:=ZW.out;have qAI:=ZX.out;have qAJ:=Ys.out;have qzV:=Ol.out;have qzW:=Om.out;have qzX:=Yk.out;have qGB:w59.cell? ⟨YE,3,none⟩=some (.int .i64 Zj):=(Qb YJ.out 3).trans rfl;have qD1:=Qc YJ.out 3;have qAK:=ZW.out;have qAL:=ZX.out;have qAM:=Ys.out;have qzY:=Ol.out;have qzZ:=Om.out;have qz0:=Yk.out;have qGC:w59.cell? ⟨YE,4,none⟩=some (.int .i64 Zh):=(Qb YJ.out 4).trans rfl;have qD2:=Qc YJ.out 4;have qAN:=ZW.out;have qAO:=ZX.out;have qAP:=Ys.out;have qz1:=Ol.out;have qz2:=Om.out;have qz3:=Yk.out;have qGD:w59.cell? ⟨YE,5,none⟩=some (.int .i64 Zc):=(Qb YJ.out 5).trans rfl;have qD3:=Qc YJ.out 5;have qAQ:=ZW.out;have qAR:=ZX.out;have qAS:=Ys.out;have qz4:=Ol.out;have qz5:=Om.out;have qz6:=Yk.out;refine qhg (w1:=?_) (by rfl) rfl ?_ ?_;rotate_left
           ·
            go_simp;rfl
           refine hK.out _ _ ⟨((Qw (p:=⟨YE,_,none⟩) Ys.out _).trans (((Qw (p:=⟨YE,_,none⟩) Ys.out _).trans (((Qw (p:=⟨YE,_,none⟩) Ys.out _).trans (((Qw (p:=⟨YE,_,none⟩) Ys.out _).trans (((Qw (p:=⟨YE,_,none⟩) Ys.out _).trans (((Qw (p:=⟨YE,_,none⟩) Ys.out _).trans (hHeld.1)))))))))))),((Qw (p:=⟨YE,_,none⟩) Ys.out _).trans (((Qw (p:=⟨YE,_,none⟩) Ys.out _).trans (((Qw (p:=⟨YE,_,none⟩) Ys.out _).trans (((Qw (p:=⟨YE,_,none⟩) Ys.out _).trans (((Qw (p:=⟨YE,_,none⟩) Ys.out _).trans (((Qw (p:=⟨YE,_,none⟩) Ys.out _).trans (hHeld.2.1)))))))))))),((Qw (p:=⟨YE,_,none⟩) Ys.out _).trans (((Qw (p:=⟨YE,_,none⟩) Ys.out _).trans (((Qw (p:=⟨YE,_,none⟩) Ys.out _).trans (((Qw (p:=⟨YE,_,none⟩) Ys.out _).trans (((Qw (p:=⟨YE,_,none⟩) Ys.out _).trans (((Qw (p:=⟨YE,_,none⟩) Ys.out _).trans (hHeld.2.2.1)))))))))))),((Qw (p:=⟨YE,_,none⟩) Ys.out _).trans (((Qw (p:=⟨YE,_,none⟩) Ys.out _).trans (((Qw (p:=⟨YE,_,none⟩) Ys.out _).trans (((Qw (p:=⟨YE,_,none⟩) Ys.out _).trans (((Qw (p:=⟨YE,_,none⟩) Ys.out _).trans (((Qw (p:=⟨YE,_,none⟩) Ys.out _).trans (hHeld.2.2.2.1)))))))))))),((Qw (p:=⟨YE,_,none⟩) Ys.out _).trans (((Qw (p:=⟨YE,_,none⟩) Ys.out _).trans (((Qw (p:=⟨YE,_,none⟩) Ys.out _).trans (((Qw (p:=⟨YE,_,none⟩) Ys.out _).trans (((Qw (p:=⟨YE,_,none⟩) Ys.out _).trans (((Qw (p:=⟨YE,_,none⟩) Ys.out _).trans (hHeld.2.2.2.2.1)))))))))))),((Qw (p:=⟨YE,_,none⟩) Ys.out _).trans (((Qw (p:=⟨YE,_,none⟩) Ys.out _).trans (((Qw (p:=⟨YE,_,none⟩) Ys.out _).trans (((Qw (p:=⟨YE,_,none⟩) Ys.out _).trans (((Qw (p:=⟨YE,_,none⟩) Ys.out _).trans (((Qw (p:=⟨YE,_,none⟩) Ys.out _).trans (hHeld.2.2.2.2.2))))))))))))⟩ (fun hHeld => ?_);clear hK K;refine OQ (by kernel_rfl) ?_
           try go_wp2
           go_roundg k4
           case measure=>have:=HJ3.out;have:=HK2.out;have:=Wm.out;have:=HK4.out;omega
           case rel=>exact ⟨(qvd),(wrap64 (Jk+1)),(O1),(t173),(OR),(t175),(Ux),(WJ),(by first|rfl|(simp;done)|(simp [*];done)),H',⟨by have:=HJ3.out;have:=HK2.out;have:=Wm.out;have:=HK4.out;omega⟩,⟨by (with_reducible repeat (first|apply Kd.R_alloc|apply Kd.R_drewN|apply Kd.R_drew));exact Kd.R_mono (Kd.R_far (p:=⟨YE,5,none⟩) (Kd.R_far (p:=⟨YE,4,none⟩) (Kd.R_far (p:=⟨YE,3,none⟩) (Kd.R_far (p:=⟨YE,2,none⟩) (Kd.R_far (p:=⟨YE,1,none⟩) (Kd.R_far (p:=⟨YE,0,none⟩) (Kd.R_types qsc.out YJ.out (by decide)) (fun _ hk=>hk.2) (.int .i64 O1)) (fun _ hk=>hk.2) (.int .i64 t173)) (fun _ hk=>hk.2) (.int .i64 OR)) (fun _ hk=>hk.2) (.int .i64 t175)) (fun _ hk=>hk.2) (.int .i64 Ux)) (fun _ hk=>hk.2) (.int .i64 WJ)) (fun _ hk=>hk.1)⟩,⟨by (with_reducible repeat (first|refine Q3 ?_ _|refine Q6 ?_|refine Q2 ?_ _));refine Qu ?_ ZW.out _;(with_reducible repeat (first|refine Q3 ?_ _|refine Q6 ?_|refine Q2 ?_ _));refine Qu ?_ ZW.out _;(with_reducible repeat (first|refine Q3 ?_ _|refine Q6 ?_|refine Q2 ?_ _));refine Qu ?_ ZW.out _;(with_reducible repeat (first|refine Q3 ?_ _|refine Q6 ?_|refine Q2 ?_ _));refine Qu ?_ ZW.out _;(with_reducible repeat (first|refine Q3 ?_ _|refine Q6 ?_|refine Q2 ?_ _));refine Qu ?_ ZW.out _;(with_reducible repeat (first|refine Q3 ?_ _|refine Q6 ?_|refine Q2 ?_ _));refine Qu ?_ ZW.out _;(with_reducible repeat (first|refine Q3 ?_ _|refine Q6 ?_|refine Q2 ?_ _));exact Z1.out⟩,⟨by (with_reducible repeat (first|refine Q3 ?_ _|refine Q6 ?_|refine Q2 ?_ _));refine Qu ?_ ZX.out _;(with_reducible repeat (first|refine Q3 ?_ _|refine Q6 ?_|refine Q2 ?_ _));refine Qu ?_ ZX.out _;(with_reducible repeat (first|refine Q3 ?_ _|refine Q6 ?_|refine Q2 ?_ _));refine Qu ?_ ZX.out _;(with_reducible repeat (first|refine Q3 ?_ _|refine Q6 ?_|refine Q2 ?_ _));refine Qu ?_ ZX.out _;(with_reducible repeat (first|refine Q3 ?_ _|refine Q6 ?_|refine Q2 ?_ _));refine Qu ?_ ZX.out _;(with_reducible repeat (first|refine Q3 ?_ _|refine Q6 ?_|refine Q2 ?_ _));refine Qu ?_ ZX.out _;(with_reducible repeat (first|refine Q3 ?_ _|refine Q6 ?_|refine Q2 ?_ _));exact Yf.out⟩,⟨by (with_reducible repeat (first|refine Q3 ?_ _|refine Q6 ?_|refine Q2 ?_ _));refine QJ (cs:=#[.int .i64 O1,.int .i64 t173,.int .i64 OR,.int .i64 t175,.int .i64 Ux,.int .i64 Zc]) ?_ 5 _ rfl;(with_reducible repeat (first|refine Q3 ?_ _|refine Q6 ?_|refine Q2 ?_ _));refine QJ (cs:=#[.int .i64 O1,.int .i64 t173,.int .i64 OR,.int .i64 t175,.int .i64 Zh,.int .i64 Zc]) ?_ 4 _ rfl;(with_reducible repeat (first|refine Q3 ?_ _|refine Q6 ?_|refine Q2 ?_ _));refine QJ (cs:=#[.int .i64 O1,.int .i64 t173,.int .i64 OR,.int .i64 Zj,.int .i64 Zh,.int .i64 Zc]) ?_ 3 _ rfl;(with_reducible repeat (first|refine Q3 ?_ _|refine Q6 ?_|refine Q2 ?_ _));refine QJ (cs:=#[.int .i64 O1,.int .i64 t173,.int .i64 Zo,.int .i64 Zj,.int .i64 Zh,.int .i64 Zc]) ?_ 2 _ rfl;(with_reducible repeat (first|refine Q3 ?_ _|refine Q6 ?_|refine Q2 ?_ _));refine QJ (cs:=#[.int .i64 O1,.int .i64 Zq,.int .i64 Zo,.int .i64 Zj,.int .i64 Zh,.int .i64 Zc]) ?_ 1 _ rfl;(with_reducible repeat (first|refine Q3 ?_ _|refine Q6 ?_|refine Q2 ?_ _));refine QJ (cs:=#[.int .i64 Zy,.int .i64 Zq,.int .i64 Zo,.int .i64 Zj,.int .i64 Zh,.int .i64 Zc]) ?_ 0 _ rfl;(with_reducible repeat (first|refine Q3 ?_ _|refine Q6 ?_|refine Q2 ?_ _));exact YJ.out⟩,⟨by repeat (first|(with_reducible first|exact HB.out|apply Q4|apply Q1|apply Qa|refine Q5 ?_ J1.out|refine Q5 ?_ Je.out|refine Q5 ?_ OM.out|refine Q5 ?_ Xe.out)|exact HB.out)⟩⟩
          rw [if_neg c46] at H
          exact absurd H (by simp)
         rw [if_neg c44] at H
         exact absurd H (by simp)
        rw [if_neg c43] at H
        exact absurd H (by simp)
       rw [if_neg c42] at H
       exact absurd H (by simp)
      rw [if_neg c41] at H;have c41b0:decide (Jk<(l1.length:Int))=false:=decide_eq_false c41;clear c41
      by_cases c66:0≤(GN.length:Int)
      ·
       rw [if_pos c66] at H;have c66b0:=eq_true c66;have c66b1:decide (0≤(GN.length:Int))=true:=decide_eq_true c66;clear c66
       by_cases c67:(GN.length:Int)≤(GN.length:Int)
       ·
        rw [if_pos c67] at H;have c67b0:=eq_true c67;have c67b1:decide ((GN.length:Int)≤(GN.length:Int))=true:=decide_eq_true c67;clear c67;obtain ⟨qrB,qgv⟩:∃ y_:List Int,y_=(GN.take ((GN.length:Int):Int).toNat):=⟨_,rfl⟩
        replace H:(some (qrB,0))=some (r1,r2):=by first|(rw [qgv];with_reducible exact H)|(have H2_:=(Option.bind_some _ _).symm.trans H;rw [qgv];with_reducible exact H2_)|(have H2_:=(Option.bind_some _ _).symm.trans H;with_reducible exact H2_)|with_reducible exact H|(rw [qgv];exact H)|exact H
        have qpu:=Q0.mk qgv;clear qgv;simp only [Option.some.injEq,Prod.mk.injEq] at H;obtain ⟨rfl,rfl⟩:=H;obtain ⟨qA0,qBc,qBy⟩:=Kd.R_slice HO_13.out;subst qBy;have q69:((GN.length:Int):Int)≤((GN.length:Int):Int):=of_decide_eq_true (by first|(with_reducible assumption)|assumption);obtain ⟨qGL,qqf,_,qu2,_⟩:=info_parts qaj;have qBN:=WE (P:=Try.prog) 37 3 Try.underlying37 qqf qA0 GN.length qBc (Kd.R_reads' HO_13.out).2.1;have qrj:=Kd.R_take (m:=((GN.length:Int):Int).toNat) HO_13.out (by omega);have qu6:qrB.length=((GN.length:Int):Int).toNat:=(by rw [qpu.out,List.length_take];omega);rw [← qpu.out] at qrj
        have qu7:GN.length=qrB.length:=by rw [qu6];omega
        have qA6:=Q0.mk qu7;clear qu6 qu7 qqf qu2 HO_13;have qsd:=Q0.mk qrj;clear qrj;replace q69:=eq_true q69
        go_wp2
        go_ret2
        exact ⟨_,by first|rfl|(simp [QB,QC]<;>rfl)|(simp [*,QB,QC]<;>rfl),qlP (by (with_reducible repeat (first|apply Kd.R_alloc|apply Kd.R_drewN|apply Kd.R_drew));exact qsd.out) _ qA6.out,by repeat (first|(with_reducible first|exact HB.out|apply Q4|apply Q1|apply Qa|refine Q5 ?_ J1.out|refine Q5 ?_ Je.out|refine Q5 ?_ OM.out)|exact HB.out)⟩
       rw [if_neg c67] at H
       exact absurd H (by simp)
      rw [if_neg c66] at H
      exact absurd H (by simp)
    replace c32:=Bool.eq_false_iff.mpr c32;subst c32
    have H1:(some (([]:List Int),92))=some (r1,r2):=by rw [if_neg (show ¬ (false=true) by decide)] at H;exact H
    clear H;have H:=H1;clear H1;simp only [Option.some.injEq,Prod.mk.injEq] at H;obtain ⟨rfl,rfl⟩:=H
    go_wp2
    go_ret2
    exact ⟨_,by first|rfl|(simp [QB,QC]<;>rfl)|(simp [*,QB,QC]<;>rfl),(by first|exact Kd.V_nil _ _ _ _ _|(show Kd.V _ _ _ _ _ (.slice none 0 0) [];exact Kd.V_nil _ _ _ _ _)),by repeat (first|(with_reducible first|exact HB.out|apply Q4|apply Q1|apply Qa|refine Q5 ?_ J1.out|refine Q5 ?_ Je.out)|exact HB.out)⟩
end
section
attribute [local go_sem] Yv Yx YK YL Yn Yo Yw Yy
def Ym.f (a0:Int) (a1:Int):Option (Int):=if a1=0 then (none) else (if (Int.tmod a0 a1)<0 then (some (wrap64 ((Int.tmod a0 a1)+a1))) else (some (Int.tmod a0 a1)))
set_option maxHeartbeats 8000000 in
set_option maxRecDepth 100000 in
theorem Ym.calls (a0:Int) (a1:Int) (r:Int) (w:World) (h:Ym.f a0 a1=some r) :
  Calls Try.prog 36 #[.int .i64 a0,.int .i64 a1] w fun e w'=>e = .returned (.int .i64 r)∧Z3 w w':=by
 have H:(if a1=0 then (none) else (if (Int.tmod a0 a1)<0 then (some (wrap64 ((Int.tmod a0 a1)+a1))) else (some (Int.tmod a0 a1))))=some r:=h
 clear h
 by_cases c3:a1=0
 · rw [if_pos c3] at H;exact absurd H (by simp)
 rw [if_neg c3] at H
 have c3b0:(a1==0)=false:=beq_eq_false_iff_ne.mpr c3
 have c3b1:(a1 != 0)=true:=bne_iff_ne.mpr c3
 by_cases c4:(Int.tmod a0 a1)<0
 ·
  rw [if_pos c4] at H
  have c4b0:decide ((Int.tmod a0 a1)<0)=true:=decide_eq_true c4
  clear c4
  obtain rfl:=Option.some.inj H
  go_enter Try.func36,Try.ntmps36
  go_wp2
  go_ret
  exact ⟨by first|rfl|(simp;done)|(simp [*];done),by repeat (first|exact Z3.refl _|apply Z3.step)⟩
 rw [if_neg c4] at H
 have c4b0:decide ((Int.tmod a0 a1)<0)=false:=decide_eq_false c4
 clear c4
 obtain rfl:=Option.some.inj H
 go_enter Try.func36,Try.ntmps36
 go_wp2
 go_ret
 exact ⟨by first|rfl|(simp;done)|(simp [*];done),by repeat (first|exact Z3.refl _|apply Z3.step)⟩
end
section
attribute [local go_sem] Yv Yx YK YL Yn Yo Yw Yy
mutual
def Qs.j0:Nat→Int→Bool→List Int→List Int→List Int→Int→Int→Option (Bool)
 | 0,_,_,_,_,_,_,_=>none
 | k+1,x3,x4,OJ,OK,OL,Wk,Wl=>Qs.l0 k x3 x4 0 OJ OK OL Wk Wl
def Qs.l0:Nat→Int→Bool→Int→List Int→List Int→List Int→Int→Int→Option (Bool)
 | 0,_,_,_,_,_,_,_,_=>none
 | k+1,x3,x4,x5,OJ,OK,OL,Wk,Wl=>if x4=true then (Qs.j2 k x3 x4 x5 (decide (x5<x3)) OJ OK OL Wk Wl) else (Qs.j2 k x3 x4 x5 false OJ OK OL Wk Wl)
def Qs.j2:Nat→Int→Bool→Int→Bool→List Int→List Int→List Int→Int→Int→Option (Bool)
 | 0,_,_,_,_,_,_,_,_,_=>none
 | k+1,x3,x4,x5,x37,OJ,OK,OL,Wk,Wl=>if x37=true then (if 0≤x5 then (if x5<(OJ.length:Int) then ((QQ.f (rd OJ x5) 0 100000).bind fun qlm=>(if qlm=true then (if x5<(OK.length:Int) then ((QQ.f (rd OK x5) 0 1000).bind fun qeo=>(if qeo=true then (if x5<(OL.length:Int) then ((QQ.f (rd OL x5) 0 100).bind fun qaP=>(Qs.l0 k x3 qaP (wrap64 (x5+1)) OJ OK OL Wk Wl)) else (none)) else (Qs.l0 k x3 false (wrap64 (x5+1)) OJ OK OL Wk Wl))) else (none)) else (Qs.l0 k x3 false (wrap64 (x5+1)) OJ OK OL Wk Wl))) else (none)) else (none)) else (some x4)
end
def Qs.f (k:Nat) (Qi:List Int) (Qn:List Int) (Ql:List Int) (QD:Int) (QA:Int):Option (Bool):=(QQ.f (Qi.length:Int) 1 6).bind fun qll=>(if qll=true then (if (Qn.length:Int)=(Qi.length:Int) then (if (Ql.length:Int)=(Qi.length:Int) then ((QQ.f QA 0 (wrap64 ((Qi.length:Int)-1))).bind fun qd2=>(Qs.j0 k (Qi.length:Int) qd2 Qi Qn Ql QD QA)) else (Qs.j0 k (Qi.length:Int) false Qi Qn Ql QD QA)) else (Qs.j0 k (Qi.length:Int) false Qi Qn Ql QD QA)) else (Qs.j0 k (Qi.length:Int) false Qi Qn Ql QD QA))
set_option maxHeartbeats 8000000 in
set_option maxRecDepth 100000 in
theorem Qs.calls (k:Nat) (QT:Option Addr) (QF:Nat) (Qi:List Int) (QR:Option Addr) (QH:Nat) (Qn:List Int) (QV:Option Addr) (QI:Nat) (Ql:List Int) (QD:Int) (QA:Int) (r:Bool) (w:World) (Gf:Kd.C (Kd.int .i64) w QT Qi.length Qi) (Gl:Qi.length≤QF) (Gg:Kd.C (Kd.int .i64) w QR Qn.length Qn) (Gm:Qn.length≤QH) (Gh:Kd.C (Kd.int .i64) w QV Ql.length Ql) (Gn:Ql.length≤QI) (h:Qs.f k Qi Qn Ql QD QA=some r) :
  Calls Try.prog 50 #[.agg #[.slice QT Qi.length QF,.slice QR Qn.length QH,.slice QV Ql.length QI,.int .i64 QD,.int .i64 QA]] w fun e w'=>e = .returned (.bool r)∧Below w.heap.size w w':=by
 have qkZ:=Try.underlying39
 have ZU:=Q0.mk Gf
 have JA:=Q0.mk Gl
 clear Gf Gl
 have Jc:=Q0.mk Gg
 have JC:=Q0.mk Gm
 clear Gg Gm
 have Jg:=Q0.mk Gh
 have JD:=Q0.mk Gn
 clear Gh Gn
 have HB:=Q0.mk (Below.refl w.heap.size w)
 have H:((QQ.f (Qi.length:Int) 1 6).bind fun qll=>(if qll=true then (if (Qn.length:Int)=(Qi.length:Int) then (if (Ql.length:Int)=(Qi.length:Int) then ((QQ.f QA 0 (wrap64 ((Qi.length:Int)-1))).bind fun qd2=>(Qs.j0 k (Qi.length:Int) qd2 Qi Qn Ql QD QA)) else (Qs.j0 k (Qi.length:Int) false Qi Qn Ql QD QA)) else (Qs.j0 k (Qi.length:Int) false Qi Qn Ql QD QA)) else (Qs.j0 k (Qi.length:Int) false Qi Qn Ql QD QA)))=some r:=h
 clear h
 have HC2:=Q0.mk H
 clear H
 go_enter Try.func50,Try.ntmps50
 go_upto_region 2 with (first|((with_reducible refine Ya (N:=1) rfl ?_);(try (refine Jp (by rfl) ?_;dsimp only));refine YD ?hg (N:=1) ?hd (cs:=#[.slice QT Qi.length QF,.slice QR Qn.length QH,.slice QV Ql.length QI,.int .i64 QD,.int .i64 QA]) (t:=39) ?hr ?_;(case hd=>rfl);(case hg=>rfl);(case hr=>first|(go_simp;done)|(go_simp;rfl));intro Jn hg w3 hbox hb;have n0_:=Q0.mk (Qx (by repeat (first|(with_reducible first|exact HB.out|apply Q4|apply Q1|apply Qa)|exact HB.out)) hb);have n1_:=Q0.mk (hbox);have n2_:=Q0.mk ((by rw [hg];exact (Qq (by repeat (first|(with_reducible first|exact HB.out|apply Q4|apply Q1|apply Qa)|exact HB.out))):w.heap.size≤Jn));have n3_:=n2_;clear HB;have HB:=n0_;have YY:=n1_;have qDa:=n2_;have Xi:=n3_;clear n0_ n1_ n2_ n3_ hb hbox hg;have Gu:w3.cell? ⟨Jn,0,none⟩=some (.slice QT Qi.length QF):=(Qb YY.out 0).trans rfl;have Gv:w3.cell? ⟨Jn,1,none⟩=some (.slice QR Qn.length QH):=(Qb YY.out 1).trans rfl;have GG:w3.cell? ⟨Jn,2,none⟩=some (.slice QV Ql.length QI):=(Qb YY.out 2).trans rfl;have qat:w3.cell? ⟨Jn,3,none⟩=some (.int .i64 QD):=(Qb YY.out 3).trans rfl;have qau:w3.cell? ⟨Jn,4,none⟩=some (.int .i64 QA):=(Qb YY.out 4).trans rfl;have Gw:=Qc YY.out 0;have Gx:=Qc YY.out 1;have GH:=Qc YY.out 2;have qax:=Qc YY.out 3;have qay:=Qc YY.out 4))
 (try simp only [Qe,Q7,Qd,Q9,Q8])
 go_cut [4] (fun v4 wc => ∃ (kq:Nat) (Xa:Bool),v4 = .bool Xa∧Q0 (Qs.j0 kq (Qi.length:Int) Xa Qi Qn Ql QD QA=some r)∧Q0 (kq≤k)∧Q0 (wc.heap[Jn]? = some (.cells #[(.slice QT Qi.length QF),(.slice QR Qn.length QH),(.slice QV Ql.length QI),.int .i64 QD,.int .i64 QA] 39 (0,0)))∧Q0 (Below w.heap.size w wc))
 case first =>
  have H:=HC2.out
  clear HC2
  replace H:=Option.bind_eq_some_iff.mp H
  obtain ⟨qll,A50,H⟩:=H
  replace H:(if qll=true then (if (Qn.length:Int)=(Qi.length:Int) then (if (Ql.length:Int)=(Qi.length:Int) then ((QQ.f QA 0 (wrap64 ((Qi.length:Int)-1))).bind fun qd2=>(Qs.j0 k (Qi.length:Int) qd2 Qi Qn Ql QD QA)) else (Qs.j0 k (Qi.length:Int) false Qi Qn Ql QD QA)) else (Qs.j0 k (Qi.length:Int) false Qi Qn Ql QD QA)) else (Qs.j0 k (Qi.length:Int) false Qi Qn Ql QD QA))=some r:=H
  have A5:=Q0.mk A50
  clear A50
  by_cases c6:qll=true
  ·
   subst c6
   have H1:(if (Qn.length:Int)=(Qi.length:Int) then (if (Ql.length:Int)=(Qi.length:Int) then ((QQ.f QA 0 (wrap64 ((Qi.length:Int)-1))).bind fun qd2=>(Qs.j0 k (Qi.length:Int) qd2 Qi Qn Ql QD QA)) else (Qs.j0 k (Qi.length:Int) false Qi Qn Ql QD QA)) else (Qs.j0 k (Qi.length:Int) false Qi Qn Ql QD QA))=some r:=by rw [if_pos rfl] at H;exact H
   clear H
   have H:=H1
   clear H1
   by_cases c7:(Qn.length:Int)=(Qi.length:Int)
   ·
    rw [if_pos c7] at H;have c7b0:((Qn.length:Int)==(Qi.length:Int))=true:=beq_iff_eq.mpr c7;have c7b1:((Qn.length:Int) != (Qi.length:Int))=false:=bne_eq_false_iff_eq.mpr c7
    have c7b2:(Qn.length==Qi.length)=true:=by first|simpa using c7|(simp at c7 ⊢;omega)
    clear c7
    (first|rw [c7b0]|(simp only [Qj,Qk];rw [c7b0])|skip)
    by_cases c8:(Ql.length:Int)=(Qi.length:Int)
    ·
     rw [if_pos c8] at H;have c8b0:((Ql.length:Int)==(Qi.length:Int))=true:=beq_iff_eq.mpr c8;have c8b1:((Ql.length:Int) != (Qi.length:Int))=false:=bne_eq_false_iff_eq.mpr c8
     have c8b2:(Ql.length==Qi.length)=true:=by first|simpa using c8|(simp at c8 ⊢;omega)
     clear c8;replace H:=Option.bind_eq_some_iff.mp H;obtain ⟨qd2,A90,H⟩:=H;replace H:(Qs.j0 k (Qi.length:Int) qd2 Qi Qn Ql QD QA)=some r:=H;have A9:=Q0.mk A90;clear A90;have H':=Q0.mk H;clear H
     go_wp2_with (first|((with_reducible refine QK (f:=34) rfl ?_);refine YP (some 10) rfl rfl Try.func34 (by kernel_rfl) rfl #[.int .i64 (Qi.length:Int),.int .i64 1,.int .i64 6] rfl (by (try simp only [List.map_toArray,List.map_cons,List.map_nil]);first|done|rfl|(simp only [List.length_drop,List.length_take];rfl)) ?_;(with_reducible refine (QQ.calls (Qi.length:Int) 1 6 true _ A5.out).mono ?_);rintro e w' ⟨rfl,⟨nd,rfl⟩⟩;refine ⟨_,rfl,?_⟩;have G6:w3.cell? ⟨Jn,0,none⟩=some (.slice QT Qi.length QF):=(Qb YY.out 0).trans rfl;have G7:w3.cell? ⟨Jn,1,none⟩=some (.slice QR Qn.length QH):=(Qb YY.out 1).trans rfl;have Gb:w3.cell? ⟨Jn,2,none⟩=some (.slice QV Ql.length QI):=(Qb YY.out 2).trans rfl;have qa2:w3.cell? ⟨Jn,3,none⟩=some (.int .i64 QD):=(Qb YY.out 3).trans rfl;have WR:w3.cell? ⟨Jn,4,none⟩=some (.int .i64 QA):=(Qb YY.out 4).trans rfl;have JM:=Qc YY.out 0;have JN:=Qc YY.out 1;have G4:=Qc YY.out 2;have WU:=Qc YY.out 3;have WV:=Qc YY.out 4)|(go_at_call 34;(with_reducible refine (QQ.calls QA 0 (wrap64 ((Qi.length:Int)-1)) qd2 _ A9.out).mono ?_);rintro e w' ⟨rfl,⟨nd,rfl⟩⟩))
     go_meet
     case rel=>exact ⟨_,(qd2),(by first|rfl|(simp;done)|(simp [*];done)),H',⟨by first|omega|exact Nat.le_refl _⟩,⟨by (with_reducible repeat (first|refine Q3 ?_ _|refine Q6 ?_|refine Q2 ?_ _));exact YY.out⟩,⟨by repeat (first|(with_reducible first|exact HB.out|apply Q4|apply Q1|apply Qa|refine Q5 ?_ Xi.out)|exact HB.out)⟩⟩
    rw [if_neg c8] at H;have c8b0:((Ql.length:Int)==(Qi.length:Int))=false:=beq_eq_false_iff_ne.mpr c8;have c8b1:((Ql.length:Int) != (Qi.length:Int))=true:=bne_iff_ne.mpr c8
    have c8b2:(Ql.length==Qi.length)=false:=by first|simpa using c8|(simp at c8 ⊢;omega)
    have H':=Q0.mk H;clear H
    go_wp2_with (first|((with_reducible refine QK (f:=34) rfl ?_);refine YP (some 10) rfl rfl Try.func34 (by kernel_rfl) rfl #[.int .i64 (Qi.length:Int),.int .i64 1,.int .i64 6] rfl (by (try simp only [List.map_toArray,List.map_cons,List.map_nil]);first|done|rfl|(simp only [List.length_drop,List.length_take];rfl)) ?_;(with_reducible refine (QQ.calls (Qi.length:Int) 1 6 true _ A5.out).mono ?_);rintro e w' ⟨rfl,⟨nd,rfl⟩⟩;refine ⟨_,rfl,?_⟩;have qa3:w3.cell? ⟨Jn,0,none⟩=some (.slice QT Qi.length QF):=(Qb YY.out 0).trans rfl;have qa4:w3.cell? ⟨Jn,1,none⟩=some (.slice QR Qn.length QH):=(Qb YY.out 1).trans rfl;have qa5:w3.cell? ⟨Jn,2,none⟩=some (.slice QV Ql.length QI):=(Qb YY.out 2).trans rfl;have qa6:w3.cell? ⟨Jn,3,none⟩=some (.int .i64 QD):=(Qb YY.out 3).trans rfl;have qa7:w3.cell? ⟨Jn,4,none⟩=some (.int .i64 QA):=(Qb YY.out 4).trans rfl;have qbh:=Qc YY.out 0;have qbi:=Qc YY.out 1;have qbj:=Qc YY.out 2;have qbk:=Qc YY.out 3;have qbl:=Qc YY.out 4))
    go_meet
    case rel=>exact ⟨_,(false),(by first|rfl|(simp;done)|(simp [*];done)),H',⟨by first|omega|exact Nat.le_refl _⟩,⟨by (with_reducible repeat (first|refine Q3 ?_ _|refine Q6 ?_|refine Q2 ?_ _));exact YY.out⟩,⟨by repeat (first|(with_reducible first|exact HB.out|apply Q4|apply Q1|apply Qa|refine Q5 ?_ Xi.out)|exact HB.out)⟩⟩
   rw [if_neg c7] at H
   have c7b0:((Qn.length:Int)==(Qi.length:Int))=false:=beq_eq_false_iff_ne.mpr c7
   have c7b1:((Qn.length:Int) != (Qi.length:Int))=true:=bne_iff_ne.mpr c7
   have c7b2:(Qn.length==Qi.length)=false:=by first|simpa using c7|(simp at c7 ⊢;omega)
   (first|rw [c7b0]|(simp only [Qj,Qk];rw [c7b0])|skip)
   have H':=Q0.mk H
   clear H
   go_wp2_with (first|((with_reducible refine QK (f:=34) rfl ?_);refine YP (some 10) rfl rfl Try.func34 (by kernel_rfl) rfl #[.int .i64 (Qi.length:Int),.int .i64 1,.int .i64 6] rfl (by (try simp only [List.map_toArray,List.map_cons,List.map_nil]);first|done|rfl|(simp only [List.length_drop,List.length_take];rfl)) ?_;(with_reducible refine (QQ.calls (Qi.length:Int) 1 6 true _ A5.out).mono ?_);rintro e w' ⟨rfl,⟨nd,rfl⟩⟩;refine ⟨_,rfl,?_⟩;have OX:w3.cell? ⟨Jn,0,none⟩=some (.slice QT Qi.length QF):=(Qb YY.out 0).trans rfl;have OY:w3.cell? ⟨Jn,1,none⟩=some (.slice QR Qn.length QH):=(Qb YY.out 1).trans rfl;have UD:w3.cell? ⟨Jn,2,none⟩=some (.slice QV Ql.length QI):=(Qb YY.out 2).trans rfl;have WS:w3.cell? ⟨Jn,3,none⟩=some (.int .i64 QD):=(Qb YY.out 3).trans rfl;have WT:w3.cell? ⟨Jn,4,none⟩=some (.int .i64 QA):=(Qb YY.out 4).trans rfl;have U7:=Qc YY.out 0;have U8:=Qc YY.out 1;have UQ:=Qc YY.out 2;have WW:=Qc YY.out 3;have WX:=Qc YY.out 4))
   go_meet
   case rel=>exact ⟨_,(false),(by first|rfl|(simp;done)|(simp [*];done)),H',⟨by first|omega|exact Nat.le_refl _⟩,⟨by (with_reducible repeat (first|refine Q3 ?_ _|refine Q6 ?_|refine Q2 ?_ _));exact YY.out⟩,⟨by repeat (first|(with_reducible first|exact HB.out|apply Q4|apply Q1|apply Qa|refine Q5 ?_ Xi.out)|exact HB.out)⟩⟩
  replace c6:=Bool.eq_false_iff.mpr c6
  subst c6
  have H1:(Qs.j0 k (Qi.length:Int) false Qi Qn Ql QD QA)=some r:=by rw [if_neg (show ¬ (false=true) by decide)] at H;exact H
  clear H
  have H:=H1
  clear H1
  have H':=Q0.mk H
  clear H
  go_wp2_with (first|((with_reducible refine QK (f:=34) rfl ?_);refine YP (some 10) rfl rfl Try.func34 (by kernel_rfl) rfl #[.int .i64 (Qi.length:Int),.int .i64 1,.int .i64 6] rfl (by (try simp only [List.map_toArray,List.map_cons,List.map_nil]);first|done|rfl|(simp only [List.length_drop,List.length_take];rfl)) ?_;(with_reducible refine (QQ.calls (Qi.length:Int) 1 6 false _ A5.out).mono ?_);rintro e w' ⟨rfl,⟨nd,rfl⟩⟩;refine ⟨_,rfl,?_⟩))
  go_meet
  case rel=>exact ⟨_,(false),(by first|rfl|(simp;done)|(simp [*];done)),H',⟨by first|omega|exact Nat.le_refl _⟩,⟨by (with_reducible repeat (first|refine Q3 ?_ _|refine Q6 ?_|refine Q2 ?_ _));exact YY.out⟩,⟨by repeat (first|(with_reducible first|exact HB.out|apply Q4|apply Q1|apply Qa|refine Q5 ?_ Xi.out)|exact HB.out)⟩⟩
 clear HC2
 try clear p2
 try clear c3
 try clear c5
 try clear c6
 try clear p6
 try clear c7
 try clear c7b0
 try clear c7b1
 try clear c7b2
 try clear c8
 try clear c8b0
 try clear c8b1
 try clear c8b2
 try clear G6
 try clear G7
 try clear Gb
 try clear qa2
 try clear WR
 try clear qa3
 try clear qa4
 try clear qa5
 try clear qa6
 try clear qa7
 try clear OX
 try clear OY
 try clear UD
 try clear WS
 try clear WT
 try clear Gu
 try clear Gv
 try clear GG
 try clear qat
 try clear qau
 try clear JM
 try clear JN
 try clear G4
 try clear WU
 try clear WV
 try clear qbh
 try clear qbi
 try clear qbj
 try clear qbk
 try clear qbl
 try clear U7
 try clear U8
 try clear UQ
 try clear WW
 try clear WX
 try clear Gw
 try clear Gx
 try clear GH
 try clear qax
 try clear qay
 obtain ⟨kq,Xa,rfl,HA,HJ1,YY,HB⟩:=hcut
 cases kq with
 | zero=>exact absurd HA.out (by simp [Qs.j0])
 | succ kj1 =>
  have H:=HA.out
  clear HA
  simp only [Qs.j0] at H
  have H':=Q0.mk H
  clear H
  go_wp2
  go_loopg [4,5] kj1 (fun kq v4 v5 w' => ∃ (O2:Bool) (Y0:Int),v4 = .bool O2∧v5 = .int .i64 Y0∧Q0 (Qs.l0 kq (Qi.length:Int) O2 Y0 Qi Qn Ql QD QA=some r)∧Q0 (kq≤kj1)∧Q0 (w'.heap[Jn]? = some (.cells #[(.slice QT Qi.length QF),(.slice QR Qn.length QH),(.slice QV Ql.length QI),.int .i64 QD,.int .i64 QA] 39 (0,0)))∧Q0 (Below w.heap.size w w'))
  case atStart=>exact ⟨(Xa),(0),(by first|rfl|(simp;done)|(simp [*];done)),(by first|rfl|(simp;done)|(simp [*];done)),H',⟨Nat.le_refl _⟩,⟨by (with_reducible repeat (first|refine Q3 ?_ _|refine Q6 ?_|refine Q2 ?_ _));exact YY.out⟩,⟨by repeat (first|(with_reducible first|exact HB.out|apply Q4|apply Q1|apply Qa|refine Q5 ?_ Xi.out)|exact HB.out)⟩⟩
  clear H'
  try clear p2
  try clear c3
  try clear c5
  try clear c6
  try clear p6
  try clear c7
  try clear c7b0
  try clear c7b1
  try clear c7b2
  try clear c8
  try clear c8b0
  try clear c8b1
  try clear c8b2
  try clear G6
  try clear G7
  try clear Gb
  try clear qa2
  try clear WR
  try clear qa3
  try clear qa4
  try clear qa5
  try clear qa6
  try clear qa7
  try clear OX
  try clear OY
  try clear UD
  try clear WS
  try clear WT
  try clear Gu
  try clear Gv
  try clear GG
  try clear qat
  try clear qau
  try clear JM
  try clear JN
  try clear G4
  try clear WU
  try clear WV
  try clear qbh
  try clear qbi
  try clear qbj
  try clear qbk
  try clear qbl
  try clear U7
  try clear U8
  try clear UQ
  try clear WW
  try clear WX
  try clear Gw
  try clear Gx
  try clear GH
  try clear qax
  try clear qay
  try clear p2
  try clear p6
  obtain ⟨O2,Y0,rfl,rfl,HA,HK2,YY,HB⟩:=hrel
  cases gk with
  | zero=>exact absurd HA.out (by simp [Qs.l0])
  | succ k2 =>
   have H:=HA.out
   clear HA
   simp only [Qs.l0] at H
   have qqz:=Q0.mk H
   clear H
   go_upto_region 4 with (fail)
   go_cut [37] (fun v37 wc => ∃ (kq:Nat) (qfZ:Bool),v37 = .bool qfZ∧Q0 (Qs.j2 kq (Qi.length:Int) O2 Y0 qfZ Qi Qn Ql QD QA=some r)∧Q0 (kq≤k2)∧Q0 (wc.heap[Jn]? = some (.cells #[(.slice QT Qi.length QF),(.slice QR Qn.length QH),(.slice QV Ql.length QI),.int .i64 QD,.int .i64 QA] 39 (0,0)))∧Q0 (Below w.heap.size w wc))
   case first =>
    have H:=qqz.out;clear qqz
    by_cases c14:O2=true
    ·
     subst c14
     have H1:(Qs.j2 k2 (Qi.length:Int) true Y0 (decide (Y0<(Qi.length:Int))) Qi Qn Ql QD QA)=some r:=by rw [if_pos rfl] at H;exact H
     clear H;have H:=H1;clear H1;have H':=Q0.mk H;clear H
     go_wp2
     go_meet
     case rel=>exact ⟨_,(decide (Y0<(Qi.length:Int))),(by first|rfl|(simp;done)|(simp [*];done)),H',⟨by have:=HJ1.out;have:=HK2.out;first|omega|exact Nat.le_refl _⟩,⟨by (with_reducible repeat (first|refine Q3 ?_ _|refine Q6 ?_|refine Q2 ?_ _));exact YY.out⟩,⟨by repeat (first|(with_reducible first|exact HB.out|apply Q4|apply Q1|apply Qa|refine Q5 ?_ Xi.out)|exact HB.out)⟩⟩
    replace c14:=Bool.eq_false_iff.mpr c14;subst c14
    have H1:(Qs.j2 k2 (Qi.length:Int) false Y0 false Qi Qn Ql QD QA)=some r:=by rw [if_neg (show ¬ (false=true) by decide)] at H;exact H
    clear H;have H:=H1;clear H1;have H':=Q0.mk H;clear H
    go_wp2
    go_meet
    case rel=>exact ⟨_,(false),(by first|rfl|(simp;done)|(simp [*];done)),H',⟨by have:=HJ1.out;have:=HK2.out;first|omega|exact Nat.le_refl _⟩,⟨by (with_reducible repeat (first|refine Q3 ?_ _|refine Q6 ?_|refine Q2 ?_ _));exact YY.out⟩,⟨by repeat (first|(with_reducible first|exact HB.out|apply Q4|apply Q1|apply Qa|refine Q5 ?_ Xi.out)|exact HB.out)⟩⟩
   clear qqz
   try clear c1
   try clear p2
   try clear c3
   try clear c5
   try clear c6
   try clear p6
   try clear c7
   try clear c7b0
   try clear c7b1
   try clear c7b2
   try clear c8
   try clear c8b0
   try clear c8b1
   try clear c8b2
   try clear c14
   try clear G6
   try clear G7
   try clear Gb
   try clear qa2
   try clear WR
   try clear qa3
   try clear qa4
   try clear qa5
   try clear qa6
   try clear qa7
   try clear OX
   try clear OY
   try clear UD
   try clear WS
   try clear WT
   try clear Gu
   try clear Gv
   try clear GG
   try clear qat
   try clear qau
   try clear JM
   try clear JN
   try clear G4
   try clear WU
   try clear WV
   try clear qbh
   try clear qbi
   try clear qbj
   try clear qbk
   try clear qbl
   try clear U7
   try clear U8
   try clear UQ
   try clear WW
   try clear WX
   try clear Gw
   try clear Gx
   try clear GH
   try clear qax
   try clear qay
   try clear p2
   try clear p6
   obtain ⟨kq,qfZ,rfl,HA,qkI,YY,HB⟩:=hcut
   cases kq with
   | zero=>exact absurd HA.out (by simp [Qs.j2])
   | succ Xr =>
    have H:=HA.out;clear HA;simp only [Qs.j2] at H
    by_cases c15:qfZ=true
    ·
     subst c15
     have H1:(if 0≤Y0 then (if Y0<(Qi.length:Int) then ((QQ.f (rd Qi Y0) 0 100000).bind fun qlm=>(if qlm=true then (if Y0<(Qn.length:Int) then ((QQ.f (rd Qn Y0) 0 1000).bind fun qeo=>(if qeo=true then (if Y0<(Ql.length:Int) then ((QQ.f (rd Ql Y0) 0 100).bind fun qaP=>(Qs.l0 Xr (Qi.length:Int) qaP (wrap64 (Y0+1)) Qi Qn Ql QD QA)) else (none)) else (Qs.l0 Xr (Qi.length:Int) false (wrap64 (Y0+1)) Qi Qn Ql QD QA))) else (none)) else (Qs.l0 Xr (Qi.length:Int) false (wrap64 (Y0+1)) Qi Qn Ql QD QA))) else (none)) else (none))=some r:=by rw [if_pos rfl] at H;exact H
     clear H;have H:=H1;clear H1
     by_cases c16:0≤Y0
     ·
      rw [if_pos c16] at H;have c16b0:decide (0≤Y0)=true:=decide_eq_true c16;clear c16
      by_cases c17:Y0<(Qi.length:Int)
      ·
       rw [if_pos c17] at H;have c17b0:decide (Y0<(Qi.length:Int))=true:=decide_eq_true c17;clear c17;replace H:=Option.bind_eq_some_iff.mp H;obtain ⟨qlm,qlA,H⟩:=H;replace H:(if qlm=true then (if Y0<(Qn.length:Int) then ((QQ.f (rd Qn Y0) 0 1000).bind fun qeo=>(if qeo=true then (if Y0<(Ql.length:Int) then ((QQ.f (rd Ql Y0) 0 100).bind fun qaP=>(Qs.l0 Xr (Qi.length:Int) qaP (wrap64 (Y0+1)) Qi Qn Ql QD QA)) else (none)) else (Qs.l0 Xr (Qi.length:Int) false (wrap64 (Y0+1)) Qi Qn Ql QD QA))) else (none)) else (Qs.l0 Xr (Qi.length:Int) false (wrap64 (Y0+1)) Qi Qn Ql QD QA))=some r:=H;have A18:=Q0.mk qlA;clear qlA
       by_cases c19:qlm=true
       ·
        subst c19
        have H1:(if Y0<(Qn.length:Int) then ((QQ.f (rd Qn Y0) 0 1000).bind fun qeo=>(if qeo=true then (if Y0<(Ql.length:Int) then ((QQ.f (rd Ql Y0) 0 100).bind fun qaP=>(Qs.l0 Xr (Qi.length:Int) qaP (wrap64 (Y0+1)) Qi Qn Ql QD QA)) else (none)) else (Qs.l0 Xr (Qi.length:Int) false (wrap64 (Y0+1)) Qi Qn Ql QD QA))) else (none))=some r:=by rw [if_pos rfl] at H;exact H
        clear H;have H:=H1;clear H1
        by_cases c20:Y0<(Qn.length:Int)
        ·
         rw [if_pos c20] at H;have c20b0:decide (Y0<(Qn.length:Int))=true:=decide_eq_true c20;clear c20;replace H:=Option.bind_eq_some_iff.mp H;obtain ⟨qeo,qlB,H⟩:=H;replace H:(if qeo=true then (if Y0<(Ql.length:Int) then ((QQ.f (rd Ql Y0) 0 100).bind fun qaP=>(Qs.l0 Xr (Qi.length:Int) qaP (wrap64 (Y0+1)) Qi Qn Ql QD QA)) else (none)) else (Qs.l0 Xr (Qi.length:Int) false (wrap64 (Y0+1)) Qi Qn Ql QD QA))=some r:=H;have A21:=Q0.mk qlB;clear qlB
         by_cases c22:qeo=true
         ·
          subst c22
          have H1:(if Y0<(Ql.length:Int) then ((QQ.f (rd Ql Y0) 0 100).bind fun qaP=>(Qs.l0 Xr (Qi.length:Int) qaP (wrap64 (Y0+1)) Qi Qn Ql QD QA)) else (none))=some r:=by rw [if_pos rfl] at H;exact H
          clear H;have H:=H1;clear H1
          by_cases c23:Y0<(Ql.length:Int)
          ·
           rw [if_pos c23] at H;have c23b0:decide (Y0<(Ql.length:Int))=true:=decide_eq_true c23;clear c23;replace H:=Option.bind_eq_some_iff.mp H;obtain ⟨qaP,qf8,H⟩:=H;replace H:(Qs.l0 Xr (Qi.length:Int) qaP (wrap64 (Y0+1)) Qi Qn Ql QD QA)=some r:=H;have A24:=Q0.mk qf8;clear qf8;have H':=Q0.mk H;clear H;have XJ:wc.cell? ⟨Jn,0,none⟩=some (.slice QT Qi.length QF):=(Qb YY.out 0).trans rfl;have XK:wc.cell? ⟨Jn,1,none⟩=some (.slice QR Qn.length QH):=(Qb YY.out 1).trans rfl;have XL:wc.cell? ⟨Jn,2,none⟩=some (.slice QV Ql.length QI):=(Qb YY.out 2).trans rfl;have qvo:wc.cell? ⟨Jn,3,none⟩=some (.int .i64 QD):=(Qb YY.out 3).trans rfl;have qvp:wc.cell? ⟨Jn,4,none⟩=some (.int .i64 QA):=(Qb YY.out 4).trans rfl;have XP:=Qc YY.out 0;have XQ:=Qc YY.out 1;have XR:=Qc YY.out 2;have qxo:=Qc YY.out 3;have qxp:=Qc YY.out 4;have qdS:0≤(Y0:Int):=of_decide_eq_true (by first|(with_reducible assumption)|assumption);have qdU:Y0<(Qi.length:Int):=of_decide_eq_true (by first|(with_reducible assumption)|assumption);obtain ⟨qp0,ql8,O9⟩:=Kd.at_int ZU.out Y0 qdS qdU;cases ql8;replace O9:=(HB.out.cell (World.block_lt_of_cell? w _ O9)).trans O9;replace qdS:=eq_true qdS;replace qdU:=eq_true qdU
           go_wp2_with (first|((with_reducible refine QK (f:=34) rfl ?_);refine YP (some 45) rfl rfl Try.func34 (by kernel_rfl) rfl #[.int .i64 (rd Qi Y0),.int .i64 0,.int .i64 100000] rfl (by (try simp only [List.map_toArray,List.map_cons,List.map_nil]);first|done|rfl|(simp only [List.length_drop,List.length_take];rfl)) ?_;(with_reducible refine (QQ.calls (rd Qi Y0) 0 100000 true _ A18.out).mono ?_);rintro e w' ⟨rfl,⟨nd,rfl⟩⟩;refine ⟨_,rfl,?_⟩;have qip:0≤(Y0:Int):=of_decide_eq_true (by first|(with_reducible assumption)|assumption);have qiG:Y0<(Qn.length:Int):=of_decide_eq_true (by first|(with_reducible assumption)|assumption);obtain ⟨qsG,qqY,X6⟩:=Kd.at_int Jc.out Y0 qip qiG;cases qqY;replace X6:=(HB.out.cell (World.block_lt_of_cell? w _ X6)).trans X6;replace qip:=eq_true qip;replace qiG:=eq_true qiG)|(go_at_call 34;(with_reducible refine (QQ.calls (rd Qn Y0) 0 1000 true _ A21.out).mono ?_);rintro e w' ⟨rfl,⟨nd,rfl⟩⟩;have qrt:0≤(Y0:Int):=of_decide_eq_true (by first|(with_reducible assumption)|assumption);have qry:Y0<(Ql.length:Int):=of_decide_eq_true (by first|(with_reducible assumption)|assumption);obtain ⟨qDk,qBk,qft⟩:=Kd.at_int Jg.out Y0 qrt qry;cases qBk;replace qft:=(HB.out.cell (World.block_lt_of_cell? w _ qft)).trans qft;replace qrt:=eq_true qrt;replace qry:=eq_true qry)|(go_at_call 34;(with_reducible refine (QQ.calls (rd Ql Y0) 0 100 qaP _ A24.out).mono ?_);rintro e w' ⟨rfl,⟨nd,rfl⟩⟩))
           go_roundg Xr
           case measure=>have:=HJ1.out;have:=HK2.out;have:=qkI.out;omega
           case rel=>exact ⟨(qaP),(wrap64 (Y0+1)),(by first|rfl|(simp;done)|(simp [*];done)),(by first|rfl|(simp;done)|(simp [*];done)),H',⟨by have:=HJ1.out;have:=HK2.out;have:=qkI.out;omega⟩,⟨by (with_reducible repeat (first|refine Q3 ?_ _|refine Q6 ?_|refine Q2 ?_ _));exact YY.out⟩,⟨by repeat (first|(with_reducible first|exact HB.out|apply Q4|apply Q1|apply Qa|refine Q5 ?_ Xi.out)|exact HB.out)⟩⟩
          rw [if_neg c23] at H
          exact absurd H (by simp)
         replace c22:=Bool.eq_false_iff.mpr c22;subst c22
         have H1:(Qs.l0 Xr (Qi.length:Int) false (wrap64 (Y0+1)) Qi Qn Ql QD QA)=some r:=by rw [if_neg (show ¬ (false=true) by decide)] at H;exact H
         clear H;have H:=H1;clear H1;have H':=Q0.mk H;clear H;have qbb:wc.cell? ⟨Jn,0,none⟩=some (.slice QT Qi.length QF):=(Qb YY.out 0).trans rfl;have qbc:wc.cell? ⟨Jn,1,none⟩=some (.slice QR Qn.length QH):=(Qb YY.out 1).trans rfl;have qbd:wc.cell? ⟨Jn,2,none⟩=some (.slice QV Ql.length QI):=(Qb YY.out 2).trans rfl;have qcK:wc.cell? ⟨Jn,3,none⟩=some (.int .i64 QD):=(Qb YY.out 3).trans rfl;have qcL:wc.cell? ⟨Jn,4,none⟩=some (.int .i64 QA):=(Qb YY.out 4).trans rfl;have qbp:=Qc YY.out 0;have qbq:=Qc YY.out 1;have qbr:=Qc YY.out 2;have qc7:=Qc YY.out 3;have qc8:=Qc YY.out 4;have qdS:0≤(Y0:Int):=of_decide_eq_true (by first|(with_reducible assumption)|assumption);have qdU:Y0<(Qi.length:Int):=of_decide_eq_true (by first|(with_reducible assumption)|assumption);obtain ⟨qp0,ql8,O9⟩:=Kd.at_int ZU.out Y0 qdS qdU;cases ql8;replace O9:=(HB.out.cell (World.block_lt_of_cell? w _ O9)).trans O9;replace qdS:=eq_true qdS;replace qdU:=eq_true qdU
         go_wp2_with (first|((with_reducible refine QK (f:=34) rfl ?_);refine YP (some 45) rfl rfl Try.func34 (by kernel_rfl) rfl #[.int .i64 (rd Qi Y0),.int .i64 0,.int .i64 100000] rfl (by (try simp only [List.map_toArray,List.map_cons,List.map_nil]);first|done|rfl|(simp only [List.length_drop,List.length_take];rfl)) ?_;(with_reducible refine (QQ.calls (rd Qi Y0) 0 100000 true _ A18.out).mono ?_);rintro e w' ⟨rfl,⟨nd,rfl⟩⟩;refine ⟨_,rfl,?_⟩;have qip:0≤(Y0:Int):=of_decide_eq_true (by first|(with_reducible assumption)|assumption);have qiG:Y0<(Qn.length:Int):=of_decide_eq_true (by first|(with_reducible assumption)|assumption);obtain ⟨qsG,qqY,X6⟩:=Kd.at_int Jc.out Y0 qip qiG;cases qqY;replace X6:=(HB.out.cell (World.block_lt_of_cell? w _ X6)).trans X6;replace qip:=eq_true qip;replace qiG:=eq_true qiG)|(go_at_call 34;(with_reducible refine (QQ.calls (rd Qn Y0) 0 1000 false _ A21.out).mono ?_);rintro e w' ⟨rfl,⟨nd,rfl⟩⟩))
         go_roundg Xr
         case measure=>have:=HJ1.out;have:=HK2.out;have:=qkI.out;omega
         case rel=>exact ⟨(false),(wrap64 (Y0+1)),(by first|rfl|(simp;done)|(simp [*];done)),(by first|rfl|(simp;done)|(simp [*];done)),H',⟨by have:=HJ1.out;have:=HK2.out;have:=qkI.out;omega⟩,⟨by (with_reducible repeat (first|refine Q3 ?_ _|refine Q6 ?_|refine Q2 ?_ _));exact YY.out⟩,⟨by repeat (first|(with_reducible first|exact HB.out|apply Q4|apply Q1|apply Qa|refine Q5 ?_ Xi.out)|exact HB.out)⟩⟩
        rw [if_neg c20] at H
        exact absurd H (by simp)
       replace c19:=Bool.eq_false_iff.mpr c19;subst c19
       have H1:(Qs.l0 Xr (Qi.length:Int) false (wrap64 (Y0+1)) Qi Qn Ql QD QA)=some r:=by rw [if_neg (show ¬ (false=true) by decide)] at H;exact H
       clear H;have H:=H1;clear H1;have H':=Q0.mk H;clear H;have qvq:wc.cell? ⟨Jn,0,none⟩=some (.slice QT Qi.length QF):=(Qb YY.out 0).trans rfl;have qvr:wc.cell? ⟨Jn,1,none⟩=some (.slice QR Qn.length QH):=(Qb YY.out 1).trans rfl;have qvs:wc.cell? ⟨Jn,2,none⟩=some (.slice QV Ql.length QI):=(Qb YY.out 2).trans rfl;have qvt:wc.cell? ⟨Jn,3,none⟩=some (.int .i64 QD):=(Qb YY.out 3).trans rfl;have qvu:wc.cell? ⟨Jn,4,none⟩=some (.int .i64 QA):=(Qb YY.out 4).trans rfl;have qxq:=Qc YY.out 0;have qxr:=Qc YY.out 1;have qxs:=Qc YY.out 2;have qxt:=Qc YY.out 3;have qxu:=Qc YY.out 4;have qdS:0≤(Y0:Int):=of_decide_eq_true (by first|(with_reducible assumption)|assumption);have qdU:Y0<(Qi.length:Int):=of_decide_eq_true (by first|(with_reducible assumption)|assumption);obtain ⟨qp0,ql8,O9⟩:=Kd.at_int ZU.out Y0 qdS qdU;cases ql8;replace O9:=(HB.out.cell (World.block_lt_of_cell? w _ O9)).trans O9;replace qdS:=eq_true qdS;replace qdU:=eq_true qdU
       go_wp2_with (first|((with_reducible refine QK (f:=34) rfl ?_);refine YP (some 45) rfl rfl Try.func34 (by kernel_rfl) rfl #[.int .i64 (rd Qi Y0),.int .i64 0,.int .i64 100000] rfl (by (try simp only [List.map_toArray,List.map_cons,List.map_nil]);first|done|rfl|(simp only [List.length_drop,List.length_take];rfl)) ?_;(with_reducible refine (QQ.calls (rd Qi Y0) 0 100000 false _ A18.out).mono ?_);rintro e w' ⟨rfl,⟨nd,rfl⟩⟩;refine ⟨_,rfl,?_⟩))
       go_roundg Xr
       case measure=>have:=HJ1.out;have:=HK2.out;have:=qkI.out;omega
       case rel=>exact ⟨(false),(wrap64 (Y0+1)),(by first|rfl|(simp;done)|(simp [*];done)),(by first|rfl|(simp;done)|(simp [*];done)),H',⟨by have:=HJ1.out;have:=HK2.out;have:=qkI.out;omega⟩,⟨by (with_reducible repeat (first|refine Q3 ?_ _|refine Q6 ?_|refine Q2 ?_ _));exact YY.out⟩,⟨by repeat (first|(with_reducible first|exact HB.out|apply Q4|apply Q1|apply Qa|refine Q5 ?_ Xi.out)|exact HB.out)⟩⟩
      rw [if_neg c17] at H
      exact absurd H (by simp)
     rw [if_neg c16] at H
     exact absurd H (by simp)
    replace c15:=Bool.eq_false_iff.mpr c15;subst c15
    have H1:(some O2)=some r:=by rw [if_neg (show ¬ (false=true) by decide)] at H;exact H
    clear H;have H:=H1;clear H1;obtain rfl:=Option.some.inj H
    go_wp2
    go_ret
    exact ⟨by first|rfl|(simp [QB,QC]<;>rfl)|(simp [*,QB,QC]<;>rfl),by repeat (first|(with_reducible first|exact HB.out|apply Q4|apply Q1|apply Qa|refine Q5 ?_ Xi.out)|exact HB.out)⟩
end
end Go.Proofs.Ytmhomdohhihlcaa.P
namespace Go.Proofs.Ytmhomdohhihlcaa.P
open Go.RowKit Go.Maps Go.Proofs.YtmhomdohhihlcaaW.PrintWords Go.Proofs.YtmhomdohhihlcaaW.PrintLast Go.Proofs.YtmhomdohhihlcaaW.PrintMore
theorem qoK:laidOutB Try.prog=true:=by kernel_rfl
theorem Xt:Keyed Try.prog 139:=Keyed.of_law (deep_law_laid qoK (m:=2) (by omega) (of_decide_eq_true (by kernel_rfl)) (by kernel_rfl) (by rw [Try.underlying139]))
theorem qib:Try.prog.keyType 139=true:=by kernel_rfl
theorem qgm:Try.prog.cellsOf 139=1:=by kernel_rfl
theorem qqO:Try.prog.cellsOf 3=1:=by kernel_rfl
theorem qiU:∃ m,Try.prog.types.size=m+1:=⟨Try.prog.types.size-1,by
 have:0<Try.prog.types.size:=of_decide_eq_true (by kernel_rfl)
 omega⟩
theorem qfw {c:Int} (hc:(Lit.int .i64 c).wf=true):keyOf Try.prog 139 (.agg #[.int .i64 c])=some (.string (keyBytes [.int .i64 c])):=by
 obtain ⟨m,hm⟩:=qiU
 have hkt:=qib
 unfold keyOf
 simp only [Try.underlying139]
 rw [if_pos (by simp [hkt,Value.formed,Try.underlying139,qgm]),hm]
 unfold Program.keyLits
 simp only [Try.underlying139,Value.cells]
 rw [if_pos (by rw [qgm];exact ⟨rfl,by simp⟩)]
 simp [qqO,Program.keyLits,Try.underlying3,hc]
def Yi.l (x:Int):Nat→List Jd→Int→Int→Int × Int
 | _,[],a,b=>(a,b)
 | i,c::cs,a,b=>if (Go.bits .and .i64 (shr .i64 x (i:Int)) 1==1)=true then Yi.l x (i+1) cs (wrap64 (a+c.f0)) (wrap64 (b+c.f1)) else Yi.l x (i+1) cs a b
def Yi.s (cells:List Jd) (x:Int):Int × Int:=Yi.l x 0 cells 0 0
theorem qsJ (i:Nat):(Go.bits .and .i64 (shr .i64 0 (i:Int)) 1==1)=false:=by
 have:shr .i64 0 (i:Int)=0:=by simp [shr]
 rw [this]
 rfl
theorem qfD:∀ (cells:List Jd) (i:Nat) (a b:Int),Yi.l 0 i cells a b=(a,b)
 | [],_,_,_=>rfl
 | c::cs,i,a,b=>by rw [Yi.l,if_neg (by rw [qsJ];decide)];exact qfD cs _ _ _
def MapI (W:World) (bm:Nat) (cells:List Jd):Prop :=
 ∃ (es:Array MapEntry) (clock:Nat),W.heap[bm]? = some (.map es clock) ∧ ∀ e∈es.toList,∃ c:Int,(Lit.int .i64 c).wf=true∧e.key = .agg #[.int .i64 c]∧e.val = .agg #[.int .i64 (Yi.s cells c).1,.int .i64 (Yi.s cells c).2]
theorem MapI.lt {W:World} {bm:Nat} {cells:List Jd} (h:MapI W bm cells):bm<W.heap.size:=by
 obtain ⟨es,clock,hb,_⟩:=h
 exact (Array.getElem?_eq_some_iff.1 hb).1
theorem MapI.keep {W W1:World} {bm:Nat} {cells:List Jd} (h:MapI W bm cells) (hk:W1.heap[bm]? = W.heap[bm]?):MapI W1 bm cells:=by
 obtain ⟨es,clock,hb,hs⟩:=h
 exact ⟨es,clock,hk.trans hb,hs⟩
theorem qpl (w:World):(zeroValue 136).run Try.prog w = .ok (.agg #[.int .i64 0,.int .i64 0]) w:=by kernel_rfl
theorem ql0 {a b:Int} (h:(Value.agg #[.int .i64 a]) = .agg #[.int .i64 b]):a=b:=by
 injection h with h
 injection h with h
 injection h with h
 injection h
theorem MapI.look {W:World} {bm:Nat} {cells:List Jd} (h:MapI W bm cells) {x:Int} (hx:(Lit.int .i64 x).wf=true) :
  ∃ (b:Bool) (a1 a2:Int),((b=false∧a1=0∧a2=0)∨(b=true∧a1=(Yi.s cells x).1∧a2=(Yi.s cells x).2)) ∧
   ∀ W1:World,W1.heap[bm]? = W.heap[bm]? → (Instr.lookup 140 (.map (some bm)) (.agg #[.int .i64 x]) true).run Try.prog W1 = .ok (.tuple #[.agg #[.int .i64 a1,.int .i64 a2],.bool b]) W1:=by
 obtain ⟨es,clock,hb,hs⟩:=h
 have hkey:=qfw hx
 have hks:∀ e∈es.toList,∃ l,keyOf Try.prog 139 e.key=some l:=fun e he=>by
  obtain ⟨c,hc,hk,_⟩:=hs e he
  exact ⟨_,by rw [hk];exact qfw hc⟩
 by_cases hex:∃ e∈es.toList,e.key = .agg #[.int .i64 x]
 ·
  refine ⟨true,(Yi.s cells x).1,(Yi.s cells x).2,.inr ⟨rfl,rfl,rfl⟩,fun W1 hW => ?_⟩
  have hb1:=hW.trans hb
  rcases Xt.find W1 hkey es.toList hks with ⟨h1,h2⟩|⟨j,e0,h1,h2,h3⟩
  · obtain ⟨e,he,hk⟩:=hex;exact absurd hk (h2 e he)
  ·
   have hm0:e0∈es.toList:=List.mem_of_getElem? h2
   obtain ⟨c,hc,hk,hv⟩:=hs e0 hm0
   have hcx:c=x:=ql0 (hk.symm.trans h3)
   subst hcx
   simp [Instr.lookup,run_underlying Try.underlying140,MapKept.run_getObj_map hb1,Xt.check W1 _ hkey,h1,Result.andThen,hv]
 ·
  refine ⟨false,0,0,.inl ⟨rfl,rfl,rfl⟩,fun W1 hW => ?_⟩
  have hb1:=hW.trans hb
  rcases Xt.find W1 hkey es.toList hks with ⟨h1,h2⟩|⟨j,e0,h1,h2,h3⟩
  ·
   simp [Instr.lookup,run_underlying Try.underlying140,MapKept.run_getObj_map hb1,Xt.check W1 _ hkey,h1,Result.andThen,qpl]
  · exact absurd ⟨e0,List.mem_of_getElem? h2,h3⟩ hex
theorem MapI.store {W:World} {bm:Nat} {cells:List Jd} (h:MapI W bm cells) {x:Int} (hx:(Lit.int .i64 x).wf=true) :
  ∃ W1,(Instr.mapUpdate 140 (.map (some bm)) (.agg #[.int .i64 x]) (.agg #[.int .i64 (Yi.s cells x).1,.int .i64 (Yi.s cells x).2])).run Try.prog W = .ok () W1∧MapI W1 bm cells∧W.grownBy W1 (some bm):=by
 obtain ⟨es,clock,hb,hs⟩:=h
 have hkey:=qfw hx
 have hks:∀ e∈es.toList,∃ l,keyOf Try.prog 139 e.key=some l:=fun e he=>by
  obtain ⟨c,hc,hk,_⟩:=hs e he
  exact ⟨_,by rw [hk];exact qfw hc⟩
 have hgr:∀ o,W.grownBy (ChangeMaps.setBlock W bm o) (some bm):=fun o=>⟨rfl,rfl,rfl,by simp [ChangeMaps.setBlock],fun i _ hi=>ChangeMaps.heap_setBlock_other hb _ (fun e=>hi (by rw [e]))⟩
 rcases Xt.find W hkey es.toList hks with ⟨h1,h2⟩|⟨j,e0,h1,h2,h3⟩
 ·
  refine ⟨ChangeMaps.setBlock W bm (.map (es.push ⟨.agg #[.int .i64 x],.agg #[.int .i64 (Yi.s cells x).1,.int .i64 (Yi.s cells x).2],clock⟩) (clock+1)),?_,⟨_,_,ChangeMaps.heap_setBlock_same hb _,fun e he => ?_⟩,hgr _⟩
  ·
   simp [Instr.mapUpdate,run_underlying Try.underlying140,MapKept.run_getObj_map hb,Xt.check W false hkey,h1,MapKept.run_setObj_map _ hb,Result.andThen,ChangeMaps.setBlock]
  ·
   simp only [Array.toList_push,List.mem_append,List.mem_singleton] at he
   rcases he with he|rfl
   · exact hs e he
   · exact ⟨x,hx,rfl,rfl⟩
 ·
  have hj:es[j]? = some e0:=by simpa using h2
  refine ⟨ChangeMaps.setBlock W bm (.map (es.modify j (fun e' => { e' with key:=.agg #[.int .i64 x],val:=.agg #[.int .i64 (Yi.s cells x).1,.int .i64 (Yi.s cells x).2] })) clock),?_,⟨_,_,ChangeMaps.heap_setBlock_same hb _,fun e he => ?_⟩,hgr _⟩
  ·
   simp [Instr.mapUpdate,run_underlying Try.underlying140,MapKept.run_getObj_map hb,Xt.check W false hkey,h1,hj,h3,Xt.stays W hkey,MapKept.run_setObj_map _ hb,Result.andThen,ChangeMaps.setBlock]
  ·
   rw [Array.toList_modify,ChangeMaps.modify_eq_set _ _ _ _ h2] at he
   rcases List.mem_or_eq_of_mem_set he with he|rfl
   · exact hs e he
   · exact ⟨x,hx,rfl,rfl⟩
theorem OB {P:Program} {ops:Array Oper} {rest:List Oper} {o:Oper} {a:Act} {Q:Exit→Act→World→Prop} {W:World} (hg:o.guard=none) (m x:Operand) (t:TypeId) (hop:o.op = .lookup t m x true) {vm vx v:Value} (hm:a.eval m=vm) (hx:a.eval x=vx)
  (hrun:(Instr.lookup t vm vx true).run P W = .ok v W) (h:wpList P ops Q rest (a.put o.dst v) W):wpList P ops Q (o::rest) a W:=by
 refine wpList_plain hg fun K' hK' => ?_
 unfold Oper.wp
 simp [execOp,hop,hm,hx,hrun,Result.andThen]
 exact hK' _ _ h
theorem qab {P:Program} {ops:Array Oper} {rest:List Oper} {o:Oper} {a:Act} {Q:Exit→Act→World→Prop} {W W1:World} (hg:o.guard=none) (m x y:Operand) (t:TypeId) (hop:o.op = .mapUpdate t m x y) {vm vx v:Value} (hm:a.eval m=vm) (hx:a.eval x=vx) (hy:a.eval y=v)
  (hrun:(Instr.mapUpdate t vm vx v).run P W = .ok () W1) (h:wpList P ops Q rest (a.put o.dst undef) W1):wpList P ops Q (o::rest) a W:=by
 refine wpList_plain hg fun K' hK' => ?_
 unfold Oper.wp
 simp [execOp,hop,hm,hx,hy,hrun,Result.andThen]
 exact hK' _ _ h
theorem qq7 (d:Nat) (w:World) (x0 y0:Int) :
  (Op.equalIn (d+2) 139 (.agg #[.int .i64 x0]) (.agg #[.int .i64 y0])).run Try.prog w = .ok (x0==y0) w:=by
 refine qmc Try.underlying139 (by kernel_rfl) ?_
 exact qgn (by rfl) (by go_simp;rfl) (by go_simp;rfl) (by go_simp)
attribute [local go_sem high] qq7
theorem qhh (x:Int) (cells:List Jd) (i:Nat) (h:i<cells.length) (a b:Int):Yi.l x i (cells.drop i) a b=if (Go.bits .and .i64 (shr .i64 x (i:Int)) 1==1)=true then Yi.l x (i+1) (cells.drop (i+1)) (wrap64 (a+(Kb cells (i:Int)).f0)) (wrap64 (b+(Kb cells (i:Int)).f1)) else Yi.l x (i+1) (cells.drop (i+1)) a b:=by
 have e:Kb cells (i:Int)=cells[i]:=by simp [Kb,List.getD_eq_getElem?_getD,List.getElem?_eq_getElem h]
 rw [List.drop_eq_getElem_cons h,e]
 rfl
set_option maxHeartbeats 4000000 in
set_option maxRecDepth 100000 in
theorem qb8.calls (A:Option Addr) (n c bm:Nat) (cells:List Jd) (x:Int) (w:World) (hr:Kd.C qbM w A cells.length cells) (hc:cells.length≤c) (hx:(Lit.int .i64 x).wf=true) (hm:MapI w bm cells) :
  Calls Try.prog 91 #[.agg #[.slice A cells.length c,.map (some bm)],.agg #[.int .i64 x]] w fun e w' =>
   e = .returned (.agg #[.int .i64 (Yi.s cells x).1,.int .i64 (Yi.s cells x).2])∧MapI w' bm cells∧Kept w w' (fun k=>k=bm)∧Below bm w w':=by
 obtain ⟨b,a1,a2,hcase,hrun⟩:=hm.look hx
 have qqn:=Try.underlying142
 have qqm:=Try.underlying139
 have qmD:=Try.underlying136
 have hlt:=hm.lt
 cases b with
 | true =>
  obtain ⟨rfl,rfl⟩:a1=(Yi.s cells x).1∧a2=(Yi.s cells x).2:=by simpa using hcase
  have HR:=Q0.mk hrun
  clear hrun hcase
  obtain ⟨s1,hs1⟩:∃ s1,(Yi.s cells x).1=s1:=⟨_,rfl⟩
  obtain ⟨s2,hs2⟩:∃ s2,(Yi.s cells x).2=s2:=⟨_,rfl⟩
  rw [hs1,hs2] at HR ⊢
  go_enter Try.func91,Try.ntmps91
  go_wp2_with (at_lookup;refine OB rfl _ _ 140 rfl rfl rfl (HR.out _ ?hw) ?_;(case hw=>exact (Q4 (Q4 (Q4 (Below.refl w.heap.size w) _) _) _).block bm hlt))
  refine bodyPost_ret (v:=.agg #[.int .i64 s1,.int .i64 s2]) (by simp [results,Try.results91,go_sem]) rfl ⟨rfl,?_⟩
  have hB:=Q4 (Q4 (Q4 (Q4 (Below.refl w.heap.size w) (.cells #[.slice A cells.length c,.map (some bm)] 142)) (.cells #[.int .i64 x] 139)) (.cells #[.int .i64 s1,.int .i64 s2] 136)) (.cells #[.int .i64 s1,.int .i64 s2] 136)
  exact ⟨hm.keep (hB.block bm hlt),Kept.of_below hB _,hB.mono (by omega)⟩
 | false =>
  obtain ⟨rfl,rfl⟩:a1=0∧a2=0:=by simpa using hcase
  have HR:=Q0.mk hrun
  have HM:=Q0.mk hm
  clear hrun hcase hm
  by_cases hx0:x=0
  ·
   subst hx0
   have hs1:(Yi.s cells 0).1=0:=by rw [Yi.s,qfD]
   have hs2:(Yi.s cells 0).2=0:=by rw [Yi.s,qfD]
   rw [hs1,hs2]
   go_enter Try.func91,Try.ntmps91
   go_wp2_with (at_lookup;refine OB rfl _ _ 140 rfl rfl rfl (HR.out _ ?hw) ?_;(case hw=>exact (Q4 (Q4 (Q4 (Below.refl w.heap.size w) _) _) _).block bm hlt))
   refine bodyPost_ret (v:=.agg #[.int .i64 0,.int .i64 0]) (by simp [results,Try.results91,go_sem]) rfl ⟨rfl,?_⟩
   have hB:=Q4 (Q4 (Q4 (Q4 (Below.refl w.heap.size w) (.cells #[.slice A cells.length c,.map (some bm)] 142)) (.cells #[.int .i64 0] 139)) (.cells #[.int .i64 0,.int .i64 0] 136)) (.cells #[.int .i64 0,.int .i64 0] 136)
   exact ⟨HM.out.keep (hB.block bm hlt),Kept.of_below hB _,hB.mono (by omega)⟩
  ·
   have hxb:(x==0)=false:=by simpa using hx0
   have HRd:=Q0.mk hr
   have hmx:cells.length≤9223372036854775807:=hr.2.1
   clear hr
   obtain ⟨sm,hsm⟩:∃ sm,Yi.s cells x=sm:=⟨_,rfl⟩
   have HSM:=Q0.mk hsm
   rw [hsm]
   clear hsm
   go_enter Try.func91,Try.ntmps91
   go_wp2_with (at_lookup;refine OB rfl _ _ 140 rfl rfl rfl (HR.out _ ?hw) ?_;(case hw=>exact (Q4 (Q4 (Q4 (Below.refl w.heap.size w) _) _) _).block bm hlt))
   go_loopg [26] cells.length (fun d v26 wr => ∃ (i:Nat),v26 = .int .i64 (i:Int)∧Q0 (i+d=cells.length)∧Q0 (∃ a b,wr.heap[w.heap.size+1+1+1]? = some (.cells #[.int .i64 a,.int .i64 b] 136 (0,0))∧Yi.l x i (cells.drop i) a b=sm) ∧
    Q0 (wr.heap[w.heap.size]? = some (.cells #[.slice A cells.length c,.map (some bm)] 142 (0,0))∧wr.heap[w.heap.size+1]? = some (.cells #[.int .i64 x] 139 (0,0))∧wr.heap[w.heap.size+1+1]? = some (.cells #[.int .i64 0,.int .i64 0] 136 (0,0)))∧Q0 (Below w.heap.size w wr))
   case atStart =>
    refine ⟨0,rfl,⟨by omega⟩,⟨0,0,?_,HSM.out⟩,⟨?_,?_,?_⟩,⟨Q4 (Q4 (Q4 (Q4 (Below.refl w.heap.size w) _) _) _) _⟩⟩
    ·
     have:=World.alloc_heap_new (((w.alloc (.cells #[.slice A cells.length c,.map (some bm)] 142)).alloc (.cells #[.int .i64 x] 139)).alloc (.cells #[.int .i64 0,.int .i64 0] 136)) (.cells #[.int .i64 0,.int .i64 0] 136)
     rwa [World.size_alloc,World.size_alloc,World.size_alloc] at this
    · exact Q2 (Q2 (Q2 (World.alloc_heap_new w _) _) _) _
    ·
     refine Q2 (Q2 ?_ _) _;have:=World.alloc_heap_new (w.alloc (.cells #[.slice A cells.length c,.map (some bm)] 142)) (.cells #[.int .i64 x] 139)
     rwa [World.size_alloc] at this
    ·
     refine Q2 ?_ _;have:=World.alloc_heap_new ((w.alloc (.cells #[.slice A cells.length c,.map (some bm)] 142)).alloc (.cells #[.int .i64 x] 139)) (.cells #[.int .i64 0,.int .i64 0] 136)
     rwa [World.size_alloc,World.size_alloc] at this
   case round =>
    obtain ⟨i,rfl,HD,HN,HK,HB⟩:=hrel;obtain ⟨a,b,hn,hl⟩:=HN.out;obtain ⟨hb0,hb1,hb2⟩:=HK.out;have qBK:wr.cell? ⟨w.heap.size,0,none⟩=some (.slice A cells.length c):=(Qb hb0 0).trans rfl;have qBL:wr.cell? ⟨w.heap.size,1,none⟩=some (.map (some bm)):=(Qb hb0 1).trans rfl;have hc1:wr.cell? ⟨w.heap.size+1,0,none⟩=some (.int .i64 x):=(Qb hb1 0).trans rfl;have qBM:wr.cell? ⟨w.heap.size+1+1,0,none⟩=some (.int .i64 0):=(Qb hb2 0).trans rfl;have hc21:wr.cell? ⟨w.heap.size+1+1,1,none⟩=some (.int .i64 0):=(Qb hb2 1).trans rfl;have qBQ:=Qc hb2 0;have qBR:=Qc hb2 1;have qFY:wr.cell? ⟨w.heap.size+1+1+1,0,none⟩=some (.int .i64 a):=(Qb hn 0).trans rfl;have hc31:wr.cell? ⟨w.heap.size+1+1+1,1,none⟩=some (.int .i64 b):=(Qb hn 1).trans rfl;have qF6:=Qc hn 0;have qF7:=Qc hn 1;have hlw:=QY hn;have hbx:∃ W,W=wr:=⟨_,rfl⟩;have HN':=Q0.mk hn;have HL:=Q0.mk hl;have HB0:=Q0.mk hb0;have HB1:=Q0.mk hb1;have HB2:=Q0.mk hb2;clear hn hl hb0 hb1 hb2 hbx HN HK
    by_cases hi:i<cells.length
    ·
     obtain ⟨d,rfl⟩:∃ d,gk=d+1:=⟨gk-1,by have:=HD.out;omega⟩;obtain ⟨ad,ea,hx0',qmE⟩:=qjs HRd.out (i:Int) (by omega) (by omega);subst ea;replace hx0':=(HB.out.cell (World.block_lt_of_cell? w _ hx0')).trans hx0';replace qmE:=(HB.out.cell (World.block_lt_of_cell? w _ qmE)).trans qmE;rw [Int.toNat_natCast] at hx0' qmE;have hst:=qhh x cells i hi a b;obtain ⟨ji4,qoA⟩:∃ j_:Int,(shr .i64 x (i:Int))=j_:=⟨_,rfl⟩;rw [qoA] at hst;have hji4_:(x / 2 ^ min ((i:Int)).toNat 64)=ji4:=qoA;have hji4z:(i:Int)≤64→(x / 2 ^ ((i:Int)).toNat)=ji4:=qlc qoA;rw [Int.toNat_natCast] at hji4_ hji4z;clear qoA;obtain ⟨e0,he0⟩:∃ e0,(Kb cells (i:Int)).f0=e0:=⟨_,rfl⟩;obtain ⟨e1,he1⟩:∃ e1,(Kb cells (i:Int)).f1=e1:=⟨_,rfl⟩;rw [he0,he1] at hst;rw [he0] at hx0';rw [he1] at qmE;clear he0 he1;have hBa:=Q4 (Below.refl wr.heap.size wr) (.cells #[.int .i64 e0,.int .i64 e1] 136);have HBa:=Q0.mk hBa;have ha1:(wr.alloc (.cells #[.int .i64 e0,.int .i64 e1] 136)).cell? ⟨w.heap.size+1,0,none⟩=some (.int .i64 x):=(Qb (Qp HB1.out hBa) 0).trans rfl;have qFR:(wr.alloc (.cells #[.int .i64 e0,.int .i64 e1] 136)).cell? ⟨w.heap.size+1+1+1,0,none⟩=some (.int .i64 a):=(Qb (Qp HN'.out hBa) 0).trans rfl;have qFS:(wr.alloc (.cells #[.int .i64 e0,.int .i64 e1] 136)).cell? ⟨w.heap.size+1+1+1,1,none⟩=some (.int .i64 b):=(Qb (Qp HN'.out hBa) 1).trans rfl;have qDH:=Qc (Qp HN'.out hBa) 0;have qDI:=Qc (Qp HN'.out hBa) 1;clear hBa qBK qBL qBM hc21 qBQ qBR
     by_cases hbit:(Go.bits .and .i64 ji4 1==1)=true
     ·
      rw [if_pos hbit] at hst;have HL2:=Q0.mk (hst.symm.trans HL.out);clear hst
      go_wp2
      go_roundg d
      case measure=>omega
      case rel =>
       refine ⟨i+1,by simp,⟨by have:=HD.out;omega⟩,⟨_,_,Q2 (QJ (QJ HN'.out 0 _ rfl) 1 _ rfl) _,HL2.out⟩,⟨?_,?_,?_⟩,⟨Q4 (Q5 (Q5 HB.out (by omega)) (by omega)) _⟩⟩
       · exact Q2 (Qu (Qu HB0.out (p:=⟨w.heap.size+1+1+1,0,none⟩) (by simp;omega) _) (p:=⟨w.heap.size+1+1+1,1,none⟩) (by simp;omega) _) _
       · exact Q2 (Qu (Qu HB1.out (p:=⟨w.heap.size+1+1+1,0,none⟩) (by simp) _) (p:=⟨w.heap.size+1+1+1,1,none⟩) (by simp) _) _
       · exact Q2 (Qu (Qu HB2.out (p:=⟨w.heap.size+1+1+1,0,none⟩) (by simp) _) (p:=⟨w.heap.size+1+1+1,1,none⟩) (by simp) _) _
     ·
      replace hbit:=Bool.eq_false_iff.mpr hbit;rw [if_neg (by rw [hbit];decide)] at hst;have HL2:=Q0.mk (hst.symm.trans HL.out);clear hst
      go_wp2
      go_roundg d
      case measure=>omega
      case rel =>
       exact ⟨i+1,by simp,⟨by have:=HD.out;omega⟩,⟨_,_,Q2 HN'.out _,HL2.out⟩,⟨Q2 HB0.out _,Q2 HB1.out _,Q2 HB2.out _⟩,⟨Q4 HB.out _⟩⟩
    ·
     have hil:i=cells.length:=by have:=HD.out;omega
     subst hil
     have hfin:(a,b)=sm:=by
      have h5:=HL.out;rw [List.drop_length] at h5
      exact h5
     have qA4:=Q0.mk (show Yi.s cells x=(a,b) by rw [hfin];exact HSM.out);subst hfin;clear HL HSM;obtain ⟨W1,qmA,hm1,hg1⟩:=(HM.out.keep (HB.out.block bm hlt)).store hx;rw [qA4.out] at qmA
     have hne:∀ k,w.heap.size≤k→some k≠some bm:=fun k hk e=>by injection e with e;omega
     have kp:∀ {g:Nat} {o:Obj},w.heap.size≤g→wr.heap[g]? = some o→W1.heap[g]? = some o:=fun {g o} hg ho=>(hg1.block g (Array.getElem?_eq_some_iff.1 ho).1 (hne g hg)).trans ho
     have qF3:W1.cell? ⟨w.heap.size+1+1+1,0,none⟩=some (.int .i64 a):=(Qb (kp (by omega) HN'.out) 0).trans rfl;have hd31:W1.cell? ⟨w.heap.size+1+1+1,1,none⟩=some (.int .i64 b):=(Qb (kp (by omega) HN'.out) 1).trans rfl;have qF1:W1.cell? ⟨w.heap.size+1+1,0,none⟩=some (.int .i64 0):=(Qb (kp (by omega) HB2.out) 0).trans rfl;have qF2:W1.cell? ⟨w.heap.size+1+1,1,none⟩=some (.int .i64 0):=(Qb (kp (by omega) HB2.out) 1).trans rfl;have qDK:=Qc (kp (by omega) HB2.out) 0;have qDL:=Qc (kp (by omega) HB2.out) 1;have HG1:=Q0.mk hg1;have HM1:=Q0.mk hm1;have HRU:=Q0.mk qmA;have HF2:=Q0.mk (kp (by omega) HB2.out);clear hg1 hm1 qmA kp hne
     go_wp2_with (at_mapUpdate;refine qab rfl _ _ _ 140 rfl rfl rfl rfl HRU.out ?_)
     refine bodyPost_ret (v:=.agg #[.int .i64 a,.int .i64 b]) ?_ rfl ⟨rfl,?_⟩
     · refine (results_cell_row rfl _ _ (w.heap.size+1+1) 136 #[.int .i64 a,.int .i64 b] (0,0) _ rfl (QJ (QJ HF2.out 0 _ rfl) 1 _ rfl) Try.underlying136 rfl (by kernel_rfl))
     ·
      have hK1:Kept w W1 (fun k=>k=bm):=(Kept.of_below HB.out _).of_grown HG1.out (fun k e => .inl (by cases e;rfl));have hB1:Below bm w W1:=(HB.out.mono (by omega)).grown HG1.out (by omega) (fun k e=>by cases e;omega);refine ⟨HM1.out.keep ?_,?_,?_⟩
      · exact (Below.heap_setCell _ _ _ bm (by simp;omega)).trans (Below.heap_setCell _ _ _ bm (by simp;omega))
      · exact (hK1.setCell (.inr (by simp;omega)) _).setCell (.inr (by simp;omega)) _
      · exact Below.setCell (Below.setCell hB1 (p:=⟨w.heap.size+1+1,0,none⟩) (by show bm≤w.heap.size+1+1;omega) _) (p:=⟨w.heap.size+1+1,1,none⟩) (by show bm≤w.heap.size+1+1;omega) _
end Go.Proofs.Ytmhomdohhihlcaa.P
namespace Go.Proofs.Ytmhomdohhihlcaa.P
open Go.RowKit Go.Proofs.YtmhomdohhihlcaaW.PrintWords Go.Proofs.YtmhomdohhihlcaaW.PrintLast Go.Proofs.YtmhomdohhihlcaaW.PrintMore
section
section
variable {l n:Nat} {P:Program} {ops:Array Oper} {Q:Exit→Act→World→Prop}
theorem qd5 {o:Oper} {a:Act} {w:World} {K:Act→World→Prop} (ho:∀ c,o.op ≠ .defer c) (h:o.wp P a w K Q):o.wpIn (Fence.wide.inRound l) n P a w K Q:=by
 unfold Oper.wp at h
 refine ⟨fun f _=>trivial,?_⟩
 rw [Oper.semAt_plain _ _ _ ho]
 generalize (execOp a.eval o).run P w=r at *
 cases r with
 | ok x w' =>
  cases x<;>simp only [Oper.upon,Oper.uponIn] at h ⊢ <;>
   first
    | exact h
    | exact ⟨fun e=>by simp [Fence.wide] at e,CallsIn.inRound l (callsIn_wide.2 h)⟩
    | exact ⟨fun e=>by simp [Fence.wide] at e,fun c cs _=>let ⟨v,w',r,s⟩:=h c cs;⟨v,w',r,stepsIn_wide.2 s⟩⟩
 | halt x w'=>cases x<;>simp only [Oper.upon,Oper.uponIn] at h ⊢ <;> exact h
def qfx (ops:Array Oper):Prop:=∀ (i:Nat) (o:Oper),ops[i]? = some o → ∀ c,o.op ≠ .defer c
theorem qic {ops:Array Oper} (h:ops.all (fun o=>match o.op with | .defer _=>false|_=>true)=true):qfx ops:=by
 intro i o ho c hc
 have hi:=(Array.getElem?_eq_some_iff.1 ho).1
 have:=Array.all_eq_true.1 h i hi
 rw [(Array.getElem?_eq_some_iff.1 ho).2,hc] at this
 cases this
theorem qid {i:Nat} {a:Act} {w:World} {K:Act→World→Prop} (hno:¬ LetsOut Q) (hd:qfx ops) (h:wpOp P ops Q i K a w):wpOpIn (Fence.wide.inRound l) n P ops Q i K a w:=by
 unfold wpOp at h
 unfold wpOpIn
 split
 ·
  simpa [*] using h
 ·
  rename_i o ho
  simp only [ho] at h
  split
  ·
   rename_i hw
   simp only [hw,if_true] at h
   rcases h with h|⟨_,h⟩
   · exact qd5 (hd i o ho) h
   · exact absurd h hno
  · rename_i hw;simp only [hw] at h;exact ⟨fun _ _=>trivial,h⟩
theorem qeR {md:Region.Mode} (hno:¬ LetsOut Q) (hd:qfx ops):∀ (fuel:Nat) (listed:Array Bool) (a:Act) (w:World),wpAny P md ops Q fuel listed a w→wpAnyIn (Fence.wide.inRound l) n P md ops Q fuel listed a w:=by
 intro fuel
 induction fuel with
 | zero=>exact fun _ _ _ h=>h
 | succ fuel ih =>
  intro listed a w h
  exact ⟨h.1,fun i hi=>qid hno hd (wpOp_mono (fun a w=>ih _ a w) (h.2 i hi))⟩
theorem Us (hno:¬ LetsOut Q):∀ (l1:List Oper) (a:Act) (w:World),(∀ o∈l1,∀ c,o.op ≠ .defer c)→wpList P ops Q l1 a w→wpListIn (Fence.wide.inRound l) n P ops Q l1 a w
 | [],_,_,_,h=>h
 | o::rest,a,w,hd,h=>by
  unfold wpList at h
  unfold wpListIn
  split
  ·
   rename_i hw
   simp only [hw,if_true] at h
   rcases h with h|⟨_,h⟩
   · exact Oper.wpIn_mono (fun a w hh=>Us hno rest a w (fun o ho=>hd o (List.mem_cons_of_mem _ ho)) hh) (qd5 (hd o List.mem_cons_self) h)
   · exact absurd h hno
  · rename_i hw;rw [if_neg hw] at h;exact ⟨fun _ _=>trivial,Us hno rest _ w (fun o ho=>hd o (List.mem_cons_of_mem _ ho)) h⟩
theorem Ui {id:Nat} {a:Act} {w:World} (hm:P.follows .mixedOrders=true) (hno:¬ LetsOut Q) (hd:ops.all (fun o=>match o.op with | .defer _=>false|_=>true)=true)
  (h:wpAny P .any ops Q ops.size (Array.replicate ops.size false) a { w with drawn:=w.drawn+1 }):(Code.region id ops true).wpIn (Fence.wide.inRound l) n P Q a w :=
 wpIn_region_any hm (qeR hno (qic hd) _ _ _ _ h)
theorem qef {id:Nat} {l1:List Oper} {a:Act} {w:World} (hno:¬ LetsOut Q) (hd:l1.all (fun o=>match o.op with | .defer _=>false|_=>true)=true) (h:wpList P l1.toArray Q l1 a w):(Code.region id l1.toArray false).wpIn (Fence.wide.inRound l) n P Q a w :=
 wpIn_region_lit (Us hno l1 a w (fun o ho c hc=>by have:=List.all_eq_true.1 hd o ho;rw [hc] at this;cases this) h)
end
structure Zp (B:Nat) (W W':World):Prop where
 size:W.heap.size≤W'.heap.size
 same:∀ (b:Nat) (cs:Array Value) (t:Nat),B≤b→t≠25→W.heap[b]? = some (.cells cs t (0,0))→W'.heap[b]? = some (.cells cs t (0,0))
namespace Zp
variable {B:Nat} {W W1 W2:World}
theorem refl (B:Nat) (W:World):Zp B W W:=⟨Nat.le_refl _,fun _ _ _ _ _ h=>h⟩
theorem trans (h:Zp B W W1) (k:Zp B W1 W2):Zp B W W2:=⟨Nat.le_trans h.size k.size,fun b cs t hb ht hk=>k.same b cs t hb ht (h.same b cs t hb ht hk)⟩
theorem of_grown (h:W.grownBy W1 none):Zp B W W1:=⟨h.size,fun b cs t _ _ hk=>(h.block b (Array.getElem?_eq_some_iff.1 hk).1 (by simp)).trans hk⟩
theorem put (l:Nat) (o o':Obj) (hl:W.heap[l]? = some o) (ho:o.isCells=false):Zp B W (W.putObj l o') :=
 ⟨by simp,fun b cs t _ _ hk=>by
  by_cases e:b=l
  · subst e;rw [hl] at hk;cases hk;cases ho
  ·
   exact (World.putObj_heap_other e).trans hk⟩
end Zp
theorem qcy {W W1:World} {B:Nat} {v:Value} {xs:List Int} {ok:Nat→Prop} (h:Kd.R (Kd.int .i64) 3 W B ok v xs) (k:Zp B W W1):Kd.R (Kd.int .i64) 3 W1 B ok v xs :=
 Kd.R_mono (Kd.R_move (Kd.R_bound h) (fun b hb=>by
  obtain ⟨_,h1,h2,q,hq,cs,hc⟩:=hb
  have hq3:q=3:=by simpa [Kd.int,Kd.scalar] using hq
  subst hq3
  rw [hc]
  exact k.same b cs 3 h1 (by decide) hc)) (fun _ hb=>hb.1)
def qb0 (n:Nat) (P:Program) (g:Nat) (lb:Array Value) (B:Nat) (xs:List (List Int)) (w:World):Prop :=
 ∀ (l:Nat) (J:List (List Int)→World→Prop) (W:World),Below w.heap.size w W →
  (∀ W1 W2 row,J [] W1→W1.grownBy W2 row→(∀ r,row=some r→W.heap.size≤r)→J [] W2) →
  (∀ pre W1 W2,J pre W1→W1.grownBy W2 none→J pre W2) →
  (∀ pre v x W1,J pre W1→pre++[x] <+: xs→Kd.R (Kd.int .i64) 3 W1 B (fun _=>True) v x→YieldAt Fence.wide (n-1) P l #[v] W1 fun e W'=>e = .returned (.bool true)∧J (pre++[x]) W'∧Zp B W1 W') →
  J [] W→CallsIn Fence.wide n P g (#[.func (.yield l) #[] #[]]++lb) W fun e W'=>(∃ v,e = .returned v)∧J xs W'
def qhf (B Bl:Nat) (I:List (List Int)→World→Prop) (xs:List (List Int)) (W:World):Exit→Act→World→Prop
 | .normal,_,W'=>KeepsFrom Bl W W'∧Zp B W W'∧I xs W'
 | _,_,_=>False
theorem qd6 {n:Nat} {P:Program} {g:Operand} {p:Tmp} {assign body:Code} {Q:Exit→Act→World→Prop} {a:Act} {w:World}
  {gf:Nat} {lb:Array Value} (hg:a.eval g = .func (.func gf) #[] lb) (eg:∀ args w,(callFunc gf args).run P w = .ok (.enter gf args) w)
  {B:Nat} {xs:List (List Int)} {w0:World} (hseq:qb0 (n-1) P gf lb B xs w0) (hb0:Below w0.heap.size w0 w)
  (I:List (List Int)→World→Prop) (hI:OwnFrom w.heap.size I) (hI0:∀ W1 W2 row,I [] W1→W1.grownBy W2 row→(∀ r,row=some r→w.heap.size≤r)→I [] W2) (h0:I [] w) (a₁:Value→Act)
  (hassign:∀ (l:Nat) (v:Value) (W:World) (K:Act→World→Prop),K (a₁ v) W →
   assign.wpIn (Fence.wide.inRound l) (n-1-1) P (Exit.then K (fun _ _ _=>False)) { tmps:=(#[p].zip #[v]).foldl (fun t (p,v)=>t.setIfInBounds p v) a.tmps,defers:=[] } W)
  (hbody:∀ (l:Nat) (pre:List (List Int)) (v:Value) (x:List Int) (W:World),I pre W→pre++[x] <+: xs→Kd.R (Kd.int .i64) 3 W B (fun _=>True) v x→body.wpIn (Fence.wide.inRound l) (n-1-1) P (qhf B w.heap.size I (pre++[x]) W) (a₁ v) W)
  (hdone:∀ (D:Nat) (W:World),w.heap.size≤D→I xs W→W.heap[D]? = some (.deferred (some []))→Q .normal { a with defers:={ target:=.collected D,args:=#[] }::a.defers } W) :
  (Code.rangeFunc g #[p] assign body).wpIn Fence.wide n P Q a w:=by
 refine wpIn_rangeFunc ?_
 intro fn hfn
 rw [show Fence.wide.round=none from rfl]
 obtain ⟨rec,hrec⟩:∃ rec:LoopState→Option Code→Loop,rec=fun st pe => { state:=st,pending:=pe,fn,tmps:=a.tmps,params:=#[p],assign,body,defers:=w.heap.size }:=⟨_,rfl⟩
 obtain ⟨W1,hW1⟩:∃ W1,(w.alloc (.deferred (some []))).alloc (.loop (rec .ready none))=W1:=⟨_,rfl⟩
 have hL1:W1.heap[w.heap.size+1]? = some (.loop (rec .ready none)):=by
  rw [← hW1];have:=World.alloc_heap_new (w.alloc (.deferred (some []))) (.loop (rec .ready none));rwa [World.size_alloc] at this
 have hK1:W1.heap[w.heap.size]? = some (.deferred (some [])):=by
  rw [← hW1];exact (Below.heap_alloc _ _ _ (by simp)).trans (World.alloc_heap_new w _)
 have hs1:W1.heap.size=w.heap.size+2:=by rw [← hW1];simp
 have hI1:I [] W1:=by rw [← hW1];exact hI.alloc _ (hI.alloc _ h0)
 have hb1:Below w0.heap.size w0 W1:=by
  rw [← hW1];exact hb0.trans ((((Below.refl _ w).alloc (Nat.le_refl _) _).alloc (by simp) _).mono hb0.size)
 refine ⟨w.heap.size+1,[{ target:=.collected w.heap.size,args:=#[] }],W1,{ target:=.fn (.func gf) lb,args:=#[.func (.yield (w.heap.size+1)) #[] #[]] },W1,gf,
  #[.func (.yield (w.heap.size+1)) #[] #[]]++lb,W1,?_,?_,?_,?_,fun e=>by simp [Fence.wide] at e,?_⟩
 · rw [← hW1,hrec];exact run_enterLoop_outer _ _ _ _ _
 ·
  simp only [resolve,hg]
  simp [go_sem]
 · intro f' hf';trivial
 ·
  simp [invoke,go_sem,eg]
 ·
  refine (hseq (w.heap.size+1)
   (fun pre W=>I pre W∧W.heap[w.heap.size+1]? = some (.loop (rec .ready none))∧W.heap[w.heap.size]? = some (.deferred (some [])))
   W1 hb1
   (fun A C row hs hg' hr => ?_) (fun pre A C hs hg' => ?_) ?_ ⟨hI1,hL1,hK1⟩).mono ?_
  ·
   have k1:∀ k o,k<w.heap.size+2→A.heap[k]? = some o→C.heap[k]? = some o:=fun k o hk ho =>
    (hg'.block k (Array.getElem?_eq_some_iff.1 ho).1 (fun e=>by have:=hr k e.symm;omega)).trans ho
   exact ⟨hI0 A C row hs.1 hg' (fun r e=>by have:=hr r e;omega),k1 _ _ (by omega) hs.2.1,k1 _ _ (by omega) hs.2.2⟩
  ·
   have k1:∀ k o,A.heap[k]? = some o→C.heap[k]? = some o:=fun k o ho=>(hg'.block k (Array.getElem?_eq_some_iff.1 ho).1 (by simp)).trans ho
   exact ⟨hI pre A C none hs.1 hg' (fun r e=>by cases e),k1 _ _ hs.2.1,k1 _ _ hs.2.2⟩
  ·
   rintro pre v x W ⟨hi,hl,hk⟩ hpre hrow
   have hlt:w.heap.size+1<W.heap.size:=(Array.getElem?_eq_some_iff.1 hl).1
   have hy:=run_yield (P:=P) (args:=#[v]) hl (by rw [hrec];rfl)
   rw [hrec] at hy
   refine ⟨fn,_,assign,body,hy,roundIn_of_wpIn hfn (hassign _ v W _ ⟨_,run_beginRound hl (by rw [hrec]),?_⟩)⟩
   have hl2:(W.putObj (w.heap.size+1) (.loop { rec .ready none with state:=.busy })).heap[w.heap.size+1]? = some (.loop { rec .ready none with state:=.busy }):=World.putObj_heap_same hlt
   have hk2:(W.putObj (w.heap.size+1) (.loop { rec .ready none with state:=.busy })).heap[w.heap.size]? = some (.deferred (some [])):=(World.putObj_heap_other (by omega)).trans hk
   have hw2:Zp B W (W.putObj (w.heap.size+1) (.loop { rec .ready none with state:=.busy })):=.put _ _ _ hl rfl
   refine wpIn_mono (hbody _ pre v x _ (hI.putObj _ hi (by omega) hl rfl) hpre (qcy hrow hw2)) ?_
   rintro e a3 W3 hp
   cases e with
   | normal =>
    obtain ⟨hk3,hkp3,hi3⟩:=hp;have hl3:=hk3.same _ _ (by omega) hl2 rfl;have hr:=run_endRound (P:=P) none hl3;rw [hrec] at hr;refine ⟨_,_,hr,?_⟩;rw [hrec] at hl3;refine ⟨rfl,⟨hI.putObj _ hi3 (by omega) hl3 rfl,?_,(World.putObj_heap_other (by omega)).trans (hk3.same _ _ (Nat.le_refl _) hk2 rfl)⟩,(hw2.trans hkp3).trans (.put _ _ _ hl3 rfl)⟩;rw [hrec]
    exact World.putObj_heap_same (Array.getElem?_eq_some_iff.1 hl3).1
   | ret=>exact hp.elim
   | exit id=>exact hp.elim
   | goto t=>exact hp.elim
   | panic ch=>exact hp.elim
   | outgrown=>exact hp.elim
  · rintro e W2 ⟨⟨v,rfl⟩,hi,hl,hk⟩;exact ⟨none,_,by have:=run_endLoop (P:=P) hl (by rw [hrec];simp);rw [hrec] at this;exact this,hdone _ _ (Nat.le_refl _) (hI.putObj _ hi (by omega) hl rfl) ((World.putObj_heap_other (by omega)).trans hk)⟩
end
end Go.Proofs.Ytmhomdohhihlcaa.P
namespace Go.Proofs.Ytmhomdohhihlcaa.P
open Go.RowKit Go.Shelf Go.Proofs.YtmhomdohhihlcaaW.PrintWords Go.Proofs.YtmhomdohhihlcaaW.PrintLast Go.Proofs.YtmhomdohhihlcaaW.PrintMore
attribute [local go_sem] Oper.semAt_some
attribute [-go_sem] Builtin.append_
def Wa:Nat→Int→List Int→List (List Int)
 | 0,left,b=>[b++[left]]
 | m+1,left,b=>(List.range (left.toNat+1)).flatMap fun (n:Nat)=>Wa m (left-(n:Int)) (b++[(n:Int)])
theorem qcg {W:World} {B c:Nat} {A:Option Addr} {mix:List Int} (h:Kd.R (Kd.int .i64) 3 W B (fun _=>True) (.slice A mix.length c) mix) (hB:B≤W.heap.size) (hl:mix.length≤10) (x:Int) :
  ∃ v' w',(Builtin.append_ #[37,37] 37 #[.slice A mix.length mix.length,.slice (some ⟨W.heap.size,0,none⟩) 1 1]).run Try.prog (W.alloc (.cells #[.int .i64 x] 3)) = .ok v' w' ∧
   Kd.R (Kd.int .i64) 3 w' B (fun _=>True) v' (mix++[x])∧W.grownBy w' none:=by
 have hC:=(Kd.R_reads' h).2.2
 have hinf:(Try.prog.info? 3).map (fun i=>(i.zero,i.size,i.bytes))=some (some (.int .i64 0),1,8):=by kernel_rfl
 obtain ⟨i0,hi,hz0,hz1,hz2⟩:=info_parts hinf
 have hb1:Below W.heap.size W (W.alloc (.cells #[.int .i64 x] 3)):=(Below.refl _ W).alloc (Nat.le_refl _) _
 have hnews:∀ j u,[Value.int .i64 x][j]? = some u→(W.alloc (.cells #[.int .i64 x] 3)).cell? (Addr.add ⟨W.heap.size,0,none⟩ j)=some u:=by
  intro j u hj
  have hj0:j=0:=by
   have:=(List.getElem?_eq_some_iff.1 hj).1
   simpa using this
  subst hj0
  rw [show Addr.add ⟨W.heap.size,0,none⟩ 0=(⟨W.heap.size,0,none⟩:Addr) by simp [Addr.add]]
  rw [← hj]
  exact (Qb (World.alloc_heap_new W _) 0).trans rfl
 have fin:∀ (v':Value) (w':World) (b0:Nat),B≤b0→w'.ownsRow b0 3 1 v' (mix.length+1) (mix.map (Value.int .i64)++[.int .i64 x])→(W.alloc (.cells #[.int .i64 x] 3)).grownBy w' none→Kd.R (Kd.int .i64) 3 w' B (fun _=>True) v' (mix++[x])∧W.grownBy w' none:=by
  intro v' w' b0 hb0 ho hg
  refine ⟨Kd.R_of_own (qaD ?_ hb0) (fun _ _=>trivial),(World.grownBy_alloc W _ none).trans hg⟩
  have e1:(mix++[x]).length=mix.length+1:=by simp
  have e2:encs (Value.int .i64) (mix++[x])=mix.map (Value.int .i64)++[.int .i64 x]:=by simp [encs]
  rw [e1,e2]
  exact ho
 cases A with
 | none =>
  have hm:mix=[]:=by
   by_cases hz:0<mix.length
   · obtain ⟨ad,e,_⟩:=qaR (W:=W) hC (Below.refl _ _) (by simpa using hz);cases e
   · exact List.eq_nil_of_length_eq_zero (by omega)
  subst hm
  obtain ⟨v',w',hrun,r1,r2,_⟩:=run_append_own (P:=Try.prog) (W.alloc (.cells #[.int .i64 x] 3)) (W.alloc (.cells #[.int .i64 x] 3)).heap.size 37 37 3 i0 (.int .i64 0) 1 8 Try.underlying37 hi hz0 hz1 hz2 rfl (by decide) (.slice none 0 0) 0 [] (World.ownsRow_nil _ _ 3 1) ⟨W.heap.size,0,none⟩ 1 1 [.int .i64 x] rfl hnews (by simp [Value.oneCell']) (by decide) (by decide) (Nat.le_refl _)
  have:=fin v' w' (W.alloc (.cells #[.int .i64 x] 3)).heap.size (by simp;omega) (by simpa using r1) (by simpa [Value.ownBlock] using r2)
  exact ⟨v',w',hrun,this⟩
 | some ad =>
  obtain ⟨v',w',hrun,r1,r2⟩:=run_append_arg_grows (P:=Try.prog) (W.alloc (.cells #[.int .i64 x] 3)) 37 37 3 i0 (.int .i64 0) 1 8 Try.underlying37 hi hz0 hz1 hz2 rfl (by decide) ad mix.length mix.length (mix.map (Value.int .i64)) (by simp) (fun j u hj=>by
   obtain ⟨ad',e,hc⟩:=qaR (w:=W) (W:=W.alloc (.cells #[.int .i64 x] 3)) hC hb1 (by have:=(List.getElem?_eq_some_iff.1 hj).1;omega)
   cases e
   exact hc j u hj) ⟨W.heap.size,0,none⟩ 1 1 [.int .i64 x] rfl hnews (by omega) (by simp only [maxLen];omega) (by omega)
  exact ⟨v',w',hrun,fin v' w' (W.alloc (.cells #[.int .i64 x] 3)).heap.size (by simp;omega) r1 r2⟩
theorem qgo {α:Type} (f:Nat→List α) (k N:Nat) (h:k<N):(List.range k).flatMap f++f k <+: (List.range N).flatMap f:=by
 obtain ⟨d,rfl⟩:∃ d,N=(k+1)+d:=⟨N-(k+1),by omega⟩
 rw [List.range_add,List.flatMap_append,List.range_succ,List.flatMap_append,List.flatMap_singleton]
 exact List.prefix_append _ _
theorem WQ {W W1:World} {r:Option Nat} (h:W.drew.grownBy W1 r):W.grownBy W1 r:=⟨h.1,h.2,h.3,h.size,fun k hk hr=>h.block k hk hr⟩
theorem qhe {n m:Nat} {P:Program} {l:Nat} {f:FuncId} {tmps:Array Value} {assign body:Code} {w:World} {R:Ending→World→Prop} (h:RoundIn Fence.wide n P l f tmps assign body w R):RoundIn Fence.wide m P l f tmps assign body w R :=
 ⟨h.1,fun c cs _=>h.2 c cs (room_wide _)⟩
theorem qcn {n m:Nat} {P:Program} {l:Nat} {args:Array Value} {w:World} {R:Ending→World→Prop} (h:YieldAt Fence.wide n P l args w R):YieldAt Fence.wide m P l args w R:=by
 obtain ⟨fn,tmps,assign,body,hy,hR⟩:=h
 exact ⟨fn,tmps,assign,body,hy,qhe hR⟩
structure Oj (l:Nat) (R:Int) (rb yb fb B:Nat) (W:World):Prop where
 r:W.heap[rb]? = some (.cells #[.int .i64 R] 3 (0,0))
 y:W.heap[yb]? = some (.cells #[.func (.yield l) #[] #[]] 147 (0,0))
 f:W.heap[fb]? = some (.cells #[.func (.func 96) #[] #[.pointer (some ⟨rb,0,none⟩),.pointer (some ⟨yb,0,none⟩),.pointer (some ⟨fb,0,none⟩)]] 87 (0,0))
 br:B≤rb
 by_:B≤yb
 bf:B≤fb
theorem Oj.keeps {l rb yb fb B:Nat} {R:Int} {W W1:World} (h:Oj l R rb yb fb B W) (k:Zp B W W1):Oj l R rb yb fb B W1 :=
 ⟨k.same _ _ _ h.br (by decide) h.r,k.same _ _ _ h.by_ (by decide) h.y,k.same _ _ _ h.bf (by decide) h.f,h.br,h.by_,h.bf⟩
theorem qck {n m:Nat} {P:Program} {f:FuncId} {args:Array Value} {w:World} {R:Ending→World→Prop} (h:CallsIn Fence.wide n P f args w R):CallsIn Fence.wide m P f args w R:=callsIn_wide.2 (callsIn_wide.1 h)
set_option maxHeartbeats 4000000 in
set_option maxRecDepth 100000 in
theorem qnC (n l:Nat) (R:Nat) (rb yb fb B:Nat) (xs:List (List Int)) (J:List (List Int)→World→Prop)
  (hJ:∀ pre W1 W2,J pre W1→W1.grownBy W2 none→J pre W2)
  (hY:∀ pre v x W1,J pre W1→pre++[x] <+: xs→Kd.R (Kd.int .i64) 3 W1 B (fun _=>True) v x→YieldAt Fence.wide n Try.prog l #[v] W1 fun e W'=>e = .returned (.bool true)∧J (pre++[x]) W'∧Zp B W1 W') :
  ∀ (m:Nat) (left:Int) (mix:List Int) (v:Value) (pre:List (List Int)) (W:World),0≤left→left≤100→mix.length+m+1=R→R≤3→B≤W.heap.size→Kd.R (Kd.int .i64) 3 W B (fun _=>True) v mix→Oj l R rb yb fb B W →
   J pre W→pre++Wa m left mix <+: xs →
   CallsIn Fence.wide n Try.prog 96 #[v,.int .i64 left,.pointer (some ⟨rb,0,none⟩),.pointer (some ⟨yb,0,none⟩),.pointer (some ⟨fb,0,none⟩)] W fun e W'=>e = .returned (.bool true)∧J (pre++Wa m left mix) W'∧Zp B W W':=by
 have hmix:Try.prog.follows .mixedOrders=true:=by kernel_rfl
 intro m
 induction m with
 | zero =>
  intro left mix v pre W qri hleft hlen hR3 hBW hrow hbox hj hpre
  obtain ⟨A,c,rfl,hc,_⟩:=Kd.R_reads hrow
  have hbr:W.cell? ⟨rb,0,none⟩=some (.int .i64 R):=(Qb hbox.r 0).trans rfl
  have hby:W.cell? ⟨yb,0,none⟩=some (.func (.yield l) #[] #[]):=(Qb hbox.y 0).trans rfl
  have hlr:decide ((mix.length:Int)=(R:Int)-1)=true:=decide_eq_true (by omega)
  have hrow2:Kd.R (Kd.int .i64) 3 W.drew B (fun _=>True) (.slice A mix.length c) mix:=hrow
  obtain ⟨v1,w1,hrun',hr1,hg1⟩:=qcg hrow2 hBW (by omega) left
  have hrun:(Builtin.append_ #[37,37] 37 #[.slice A mix.length mix.length,.slice (some ⟨W.heap.size,0,none⟩) 1 1]).run Try.prog (W.alloc (.cells #[.int .i64 left] 3)).drew = .ok v1 w1:=hrun'
  clear hrun'
  have hg0:W.grownBy w1 none:=WQ hg1
  have qgr:Oj l R rb yb fb B w1:=hbox.keeps (Zp.of_grown hg0)
  have qFW:w1.cell? ⟨yb,0,none⟩=some (.func (.yield l) #[] #[]):=(Qb qgr.y 0).trans rfl
  have hylt:yb<W.heap.size:=QY hbox.y
  have hyne:(yb=W.heap.size)=False:=eq_false (by omega)
  have qFh:(W.heap.size=yb)=False:=eq_false (by omega)
  have qFX:(W.alloc (.cells #[.int .i64 left] 3)).cell? ⟨yb,0,none⟩=some (.func (.yield l) #[] #[]):=(World.cell?_alloc_some _ _ _ (by rw [hby];rfl)).trans hby
  have hcut:=WE (P:=Try.prog) 37 3 Try.underlying37 rfl A mix.length c hc
  obtain ⟨fn,tmps,assign,body,hy,hRd⟩:=qcn (m:=n-1) (hY pre v1 (mix++[left]) w1 (hJ _ _ _ hj hg0) hpre hr1)
  refine callsIn_of_wp Try.func96 rfl trivial ?_ rfl
  simp only [Try.ntmps96,List.size_toArray,List.length_cons,List.length_nil,Nat.reduceAdd,Nat.reduceSub,Array.replicate_succ,Array.replicate_zero,List.push_toArray,List.append_toArray,List.nil_append,List.cons_append]
  gi_wp2
  gi_region_with_o (refine ⟨fun e=>by simp [Fence.wide] at e,hRd.mono ?_⟩;rintro e W' ⟨rfl,hJ',hk'⟩)
  all_goals
   gi_wp2
   go_ret
   exact ⟨rfl,hJ',(Zp.of_grown hg0).trans hk'⟩
 | succ m ih =>
  intro left mix v pre W qri hleft hlen hR3 hBW hrow hbox hj hpre
  obtain ⟨A,c,rfl,hc,_⟩:=Kd.R_reads hrow
  have hbr:W.cell? ⟨rb,0,none⟩=some (.int .i64 R):=(Qb hbox.r 0).trans rfl
  have hlr:decide ((mix.length:Int)=(R:Int)-1)=false:=decide_eq_false (by omega)
  have qGd:((mix.length:Int)==(R:Int)-1)=false:=by simpa using hlr
  have hcut:=WE (P:=Try.prog) 37 3 Try.underlying37 rfl A mix.length c hc
  refine callsIn_of_wp Try.func96 rfl trivial ?_ rfl
  simp only [Try.ntmps96,List.size_toArray,List.length_cons,List.length_nil,Nat.reduceAdd,Nat.reduceSub,Array.replicate_succ,Array.replicate_zero,List.push_toArray,List.append_toArray,List.nil_append,List.cons_append]
  have hN:left.toNat+m+1≤left.toNat+m+1:=Nat.le_refl _
  gi_wp2
  gi_loopg [27] (left.toNat+1) (fun d v27 wr => ∃ (k:Nat),v27 = .int .i64 (k:Int)∧Q0 (k+d=left.toNat+1)∧Q0 (J (pre++(List.range k).flatMap fun (n:Nat)=>Wa m (left-(n:Int)) (mix++[(n:Int)])) wr)∧Q0 (Zp B W wr))
  case atStart=>exact ⟨0,rfl,⟨by omega⟩,⟨by simpa using hj⟩,⟨Zp.refl _ _⟩⟩
  case round =>
   obtain ⟨k,rfl,HD,HJ,HK⟩:=hrel
   by_cases hk:(k:Int)<left+1
   ·
    obtain ⟨d,rfl⟩:∃ d,gk=d+1:=⟨gk-1,by have:=HD.out;omega⟩
    have hBr:B≤wr.heap.size:=by have:=HK.out.size;omega
    have hboxr:Oj l R rb yb fb B wr:=hbox.keeps HK.out;have hrowr:Kd.R (Kd.int .i64) 3 wr.drew B (fun _=>True) (.slice A mix.length c) mix:=(show Kd.R (Kd.int .i64) 3 wr B (fun _=>True) (.slice A mix.length c) mix from qcy hrow HK.out)
    have hwr:IntKind.i64.wrap (left-(k:Int))=left-(k:Int):=by rw [Qj];unfold wrap64;omega
    obtain ⟨v1,w1,hrun',hr1,hg1⟩:=qcg hrowr hBr (by omega) (k:Int);have hrun:(Builtin.append_ #[37,37] 37 #[.slice A mix.length mix.length,.slice (some ⟨wr.heap.size,0,none⟩) 1 1]).run Try.prog (wr.alloc (.cells #[.int .i64 (k:Int)] 3)).drew = .ok v1 w1:=hrun';clear hrun';have hg0:wr.grownBy w1 none:=WQ hg1;have qgr:Oj l R rb yb fb B w1:=hboxr.keeps (Zp.of_grown hg0);have hbf:wr.cell? ⟨fb,0,none⟩=some (.func (.func 96) #[] #[.pointer (some ⟨rb,0,none⟩),.pointer (some ⟨yb,0,none⟩),.pointer (some ⟨fb,0,none⟩)]):=(Qb hboxr.f 0).trans rfl;have qFU:w1.cell? ⟨fb,0,none⟩=some (.func (.func 96) #[] #[.pointer (some ⟨rb,0,none⟩),.pointer (some ⟨yb,0,none⟩),.pointer (some ⟨fb,0,none⟩)]):=(Qb qgr.f 0).trans rfl;have qFV:(wr.alloc (.cells #[.int .i64 (k:Int)] 3)).cell? ⟨fb,0,none⟩=some (.func (.func 96) #[] #[.pointer (some ⟨rb,0,none⟩),.pointer (some ⟨yb,0,none⟩),.pointer (some ⟨fb,0,none⟩)]):=(World.cell?_alloc_some _ _ _ (by rw [hbf];rfl)).trans hbf;have hJ1:=hJ _ _ _ HJ.out hg0;have hB1:B≤w1.heap.size:=Nat.le_trans hBr hg0.size
    have qmz:(pre++(List.range k).flatMap fun (n:Nat)=>Wa m (left-(n:Int)) (mix++[(n:Int)]))++Wa m (left-(k:Int)) (mix++[(k:Int)]) <+: xs:=by
     refine List.IsPrefix.trans ?_ hpre;rw [List.append_assoc]
     exact (List.prefix_append_right_inj pre).2 (qgo (fun (n:Nat)=>Wa m (left-(n:Int)) (mix++[(n:Int)])) k (left.toNat+1) (by omega))
    have hcall:=qck (m:=n-1) (ih (left-(k:Int)) (mix++[(k:Int)]) v1 _ w1 (by omega) (by omega) (by simp;omega) hR3 hB1 hr1 qgr hJ1 qmz);have HG:=Q0.mk hg0;have HP:=Q0.mk qmz;clear hJ1 qmz hg0 hg1 hr1 qgr hboxr hrowr hB1 hBr
    gi_wp2
    gi_region_with_o (refine ⟨trivial,fun e=>by simp [Fence.wide] at e,hcall.mono ?_⟩;rintro e W' ⟨rfl,hJ',hk'⟩)
    all_goals
     gi_wp2
     gi_roundg d
     case measure=>omega
     case rel=>exact ⟨k+1,rfl,⟨by have:=HD.out;omega⟩,⟨by rw [List.range_succ,List.flatMap_append,List.flatMap_singleton,← List.append_assoc];exact hJ'⟩,⟨(HK.out.trans (Zp.of_grown HG.out)).trans hk'⟩⟩
   ·
    gi_wp2
    go_ret
    have hkk:k=left.toNat+1:=by have:=HD.out;omega
    subst hkk
    exact ⟨rfl,HJ.out,HK.out⟩
end Go.Proofs.Ytmhomdohhihlcaa.P
namespace Go.Proofs.Ytmhomdohhihlcaa.P
open Go.RowKit Go.Proofs.YtmhomdohhihlcaaW.PrintWords Go.Proofs.YtmhomdohhihlcaaW.PrintLast Go.Proofs.YtmhomdohhihlcaaW.PrintMore
section
structure qlS (p:Prop):Prop where
 out:p
theorem qrA (op:BinOp) (k:IntKind) (x y:Int):(Lit.int k (Go.bits op k x y)).wf=true:=by
 exact wf_bits op k x y
structure BSt where
 ch:List Int
 sp:Int
 lo:Int
def QG.upd (cells:List Jd) (so:List Int) (x:Int) (st:BSt):BSt :=
 if st.sp<(Yi.s cells x).1∨((Yi.s cells x).1=st.sp∧(Yi.s cells x).2<st.lo) then ⟨so,(Yi.s cells x).1,(Yi.s cells x).2⟩ else st
def QG.lp (cells:List Jd) (sets:List Int) (many:Int):Nat→List Int→Int→BSt→BSt
  | 0,_,_,st=>st
  | d+1,so,x,st=>QG.lp cells sets many d so x
      (if (((so.length+1:Nat):Int))=many then QG.upd cells (so++[((sets.length-(d+1):Nat):Int)]) (Go.bits .or .i64 x (rd sets ((sets.length-(d+1):Nat):Int))) st
       else QG.lp cells sets many d (so++[((sets.length-(d+1):Nat):Int)]) (Go.bits .or .i64 x (rd sets ((sets.length-(d+1):Nat):Int))) st)
def QG.cz (cells:List Jd) (sets:List Int) (many:Int) (d:Nat) (so:List Int) (x:Int) (st:BSt):BSt :=
 if (so.length:Int)=many then QG.upd cells so x st else QG.lp cells sets many d so x st
def BxS (sb lb cb bm:Nat) (k:Nat):Prop:=k=sb∨k=lb∨k=cb∨k=bm
structure BxI (N0 seb sb lb cb tb fb bm:Nat) (A:Option Addr) (c:Nat) (cells:List Jd) (At:Option Addr) (ct:Nat) (sets:List Int) (W:World) (st:BSt):Prop where
 sea:W.heap[seb]? = some (.cells #[.slice A cells.length c,.map (some bm)] 142 (0,0))
 spb:W.heap[sb]? = some (.cells #[.int .i64 st.sp] 3 (0,0))
 lob:W.heap[lb]? = some (.cells #[.int .i64 st.lo] 3 (0,0))
 chb:∃ v,W.heap[cb]? = some (.cells #[v] 37 (0,0))∧Kd.R (Kd.int .i64) 3 W N0 (fun k => ¬ BxS sb lb cb bm k) v st.ch
 tbx:W.heap[tb]? = some (.cells #[.slice At sets.length ct] 137 (0,0))
 fbx:W.heap[fb]? = some (.cells #[.func (.func 90) #[] #[.pointer (some ⟨seb,0,none⟩),.pointer (some ⟨sb,0,none⟩),.pointer (some ⟨lb,0,none⟩),.pointer (some ⟨cb,0,none⟩),.pointer (some ⟨tb,0,none⟩),.pointer (some ⟨fb,0,none⟩)]] 143 (0,0))
 row:Kd.R (Kd.int .i64) 139 W N0 (fun k => ¬ BxS sb lb cb bm k) (.slice At sets.length ct) sets
 map:MapI W bm cells
 cel:Kd.C qbM W A cells.length cells
 hc:cells.length≤c
 n1:seb≠sb∧seb≠lb∧seb≠cb∧seb≠bm
 n2:tb≠sb∧tb≠lb∧tb≠cb∧tb≠bm
 n3:fb≠sb∧fb≠lb∧fb≠cb∧fb≠bm
 n4:sb≠lb∧sb≠cb∧sb≠bm∧lb≠cb∧lb≠bm∧cb≠bm
 n5:N0≤sb∧N0≤lb∧N0≤cb∧N0≤bm
 cl:∀ W',Below N0 W W'→Kd.C qbM W' A cells.length cells
section
variable {N0 seb sb lb cb tb fb bm:Nat} {A:Option Addr} {c:Nat} {cells:List Jd} {At:Option Addr} {ct:Nat} {sets:List Int} {W W1:World} {st:BSt}
theorem BxI.step (h:BxI N0 seb sb lb cb tb fb bm A c cells At ct sets W st) (hk:Kept W W1 (fun k=>k=bm)) (hm:MapI W1 bm cells) (hb:Below N0 W W1):BxI N0 seb sb lb cb tb fb bm A c cells At ct sets W1 st:=by
 obtain ⟨v,h1,h2⟩:=h.chb
 exact ⟨Kw h.sea hk h.n1.2.2.2,Kw h.spb hk h.n4.2.2.1,Kw h.lob hk h.n4.2.2.2.2.1,⟨v,Kw h1 hk h.n4.2.2.2.2.2,Kd.R_kept h2 hk (fun k hk1 e=>hk1 (.inr (.inr (.inr e))))⟩,Kw h.tbx hk h.n2.2.2.2,Kw h.fbx hk h.n3.2.2.2,
  Kd.R_kept h.row hk (fun k hk1 e=>hk1 (.inr (.inr (.inr e)))),hm,h.cl _ hb,h.hc,h.n1,h.n2,h.n3,h.n4,h.n5,fun W' hb'=>h.cl _ (hb.trans hb')⟩
theorem BxI.below (h:BxI N0 seb sb lb cb tb fb bm A c cells At ct sets W st) (hb:Below W.heap.size W W1) (hN:N0≤W.heap.size):BxI N0 seb sb lb cb tb fb bm A c cells At ct sets W1 st :=
 h.step (Kept.of_below hb _) (h.map.keep (hb.block bm h.map.lt)) (hb.mono hN)
theorem BxI.put (h:BxI N0 seb sb lb cb tb fb bm A c cells At ct sets W st) {v:Value} {so:List Int} {s1 s2:Int} (hv:Kd.R (Kd.int .i64) 3 W N0 (fun k => ¬ BxS sb lb cb bm k) v so) :
  BxI N0 seb sb lb cb tb fb bm A c cells At ct sets (((W.setCell ⟨cb,0,none⟩ v).setCell ⟨sb,0,none⟩ (.int .i64 s1)).setCell ⟨lb,0,none⟩ (.int .i64 s2)) ⟨so,s1,s2⟩ ∧
   Kept W (((W.setCell ⟨cb,0,none⟩ v).setCell ⟨sb,0,none⟩ (.int .i64 s1)).setCell ⟨lb,0,none⟩ (.int .i64 s2)) (BxS sb lb cb bm) ∧
   Below N0 W (((W.setCell ⟨cb,0,none⟩ v).setCell ⟨sb,0,none⟩ (.int .i64 s1)).setCell ⟨lb,0,none⟩ (.int .i64 s2)):=by
 obtain ⟨v0,h1,h2⟩:=h.chb
 obtain ⟨a1,a2,a3,a4,a5,a6⟩:=h.n4
 have hK:Kept W (((W.setCell ⟨cb,0,none⟩ v).setCell ⟨sb,0,none⟩ (.int .i64 s1)).setCell ⟨lb,0,none⟩ (.int .i64 s2)) (BxS sb lb cb bm) :=
  (((Kept.refl W _).setCell (p:=⟨cb,0,none⟩) (.inl (.inr (.inr (.inl rfl)))) _).setCell (p:=⟨sb,0,none⟩) (.inl (.inl rfl)) _).setCell (p:=⟨lb,0,none⟩) (.inl (.inr (.inl rfl))) _
 have hB:Below N0 W (((W.setCell ⟨cb,0,none⟩ v).setCell ⟨sb,0,none⟩ (.int .i64 s1)).setCell ⟨lb,0,none⟩ (.int .i64 s2)) :=
  (((Below.refl N0 W).setCell (p:=⟨cb,0,none⟩) h.n5.2.2.1 _).setCell (p:=⟨sb,0,none⟩) h.n5.1 _).setCell (p:=⟨lb,0,none⟩) h.n5.2.1 _
 have nS:∀ {k:Nat},k≠sb→k≠lb→k≠cb→k≠bm → ¬ BxS sb lb cb bm k:=fun h1 h2 h3 h4 e=>by
  rcases e with e|e|e|e
  · exact h1 e
  · exact h2 e
  · exact h3 e
  · exact h4 e
 refine ⟨⟨Kw h.sea hK (nS h.n1.1 h.n1.2.1 h.n1.2.2.1 h.n1.2.2.2),?_,?_,⟨v,?_,Kd.R_kept hv hK (fun k hk=>hk)⟩,Kw h.tbx hK (nS h.n2.1 h.n2.2.1 h.n2.2.2.1 h.n2.2.2.2),Kw h.fbx hK (nS h.n3.1 h.n3.2.1 h.n3.2.2.1 h.n3.2.2.2),Kd.R_kept h.row hK (fun k hk=>hk),
  h.map.keep ?_,h.cl _ hB,h.hc,h.n1,h.n2,h.n3,h.n4,h.n5,fun W' hb'=>h.cl _ (hB.trans hb')⟩,hK,hB⟩
 · exact Qu (QJ (Qu h.spb (p:=⟨cb,0,none⟩) a2 _) 0 _ rfl) (p:=⟨lb,0,none⟩) a1 _
 · exact QJ (Qu (Qu h.lob (p:=⟨cb,0,none⟩) a4 _) (p:=⟨sb,0,none⟩) (Ne.symm a1) _) 0 _ rfl
 · exact Qu (Qu (QJ h1 0 _ rfl) (p:=⟨sb,0,none⟩) (Ne.symm a2) _) (p:=⟨lb,0,none⟩) (Ne.symm a4) _
 · exact ((Below.heap_setCell _ _ _ bm (Ne.symm a5)).trans (Below.heap_setCell _ _ _ bm (Ne.symm a3))).trans (Below.heap_setCell _ _ _ bm (Ne.symm a6))
set_option maxHeartbeats 4000000 in
set_option maxRecDepth 100000 in
theorem KU.leaf (v:Value) (so:List Int) (x:Int) (hI:BxI N0 seb sb lb cb tb fb bm A c cells At ct sets W st) (hN:N0≤W.heap.size) (hv:Kd.R (Kd.int .i64) 3 W N0 (fun k => ¬ BxS sb lb cb bm k) v so) (hx:(Lit.int .i64 x).wf=true) :
  Calls Try.prog 90 #[v,.agg #[.int .i64 x],.int .i64 (so.length:Int),.pointer (some ⟨seb,0,none⟩),.pointer (some ⟨sb,0,none⟩),.pointer (some ⟨lb,0,none⟩),.pointer (some ⟨cb,0,none⟩),.pointer (some ⟨tb,0,none⟩),.pointer (some ⟨fb,0,none⟩)] W
   fun e w'=>(∃ u,e = .returned u)∧BxI N0 seb sb lb cb tb fb bm A c cells At ct sets w' (QG.upd cells so x st)∧Kept W w' (BxS sb lb cb bm)∧Below N0 W w':=by
 obtain ⟨Av,cv,rfl,hcv,hCv⟩:=Kd.R_reads hv
 have qqn:=Try.underlying142
 have qqm:=Try.underlying139
 have qmD:=Try.underlying136
 have hbl:=Q4 (Below.refl W.heap.size W) (.cells #[.int .i64 x] 139)
 have hIa:=hI.below hbl hN
 have hs0:(W.alloc (.cells #[.int .i64 x] 139)).cell? ⟨seb,0,none⟩=some (.slice A cells.length c):=(Qb hIa.sea 0).trans rfl
 have hs1:(W.alloc (.cells #[.int .i64 x] 139)).cell? ⟨seb,1,none⟩=some (.map (some bm)):=(Qb hIa.sea 1).trans rfl
 have hmx:so.length≤9223372036854775807:=hCv.2.1
 have HI:=Q0.mk hI
 have HIa:=Q0.mk hIa
 have HV:=Q0.mk hv
 have HBL:=Q0.mk hbl
 obtain ⟨s1,hs1e⟩:∃ s1,(Yi.s cells x).1=s1:=⟨_,rfl⟩
 obtain ⟨s2,hs2e⟩:∃ s2,(Yi.s cells x).2=s2:=⟨_,rfl⟩
 obtain ⟨st2,qh9⟩:∃ st2,QG.upd cells so x st=st2:=⟨_,rfl⟩
 rw [qh9]
 have hupd:(if st.sp<s1∨(s1=st.sp∧s2<st.lo) then ⟨so,s1,s2⟩ else st)=st2:=by rw [← qh9,← hs1e,← hs2e];rfl
 have HS1:=Q0.mk hs1e
 have HS2:=Q0.mk hs2e
 have HU:=Q0.mk hupd
 clear hI hIa hv hbl hCv hs1e hs2e hupd qh9
 go_enter Try.func90,Try.ntmps90
 go_wp2_with (go_at_call 91;refine qlS.out ?_)
 refine qlS.mk ?_
 refine (qb8.calls A cells.length c bm cells x _ HIa.out.cel HIa.out.hc hx HIa.out.map).mono ?_
 rintro e w2 ⟨rfl,hm2,hk2,hb2⟩
 have hb2':=hb2.mono HIa.out.n5.2.2.2
 have hI2:=HIa.out.step hk2 hm2 hb2'
 rw [HS1.out,HS2.out]
 clear hs0 hs1
 have hb3:=Q4 (Below.refl w2.heap.size w2) (.cells #[.int .i64 s1,.int .i64 s2] 136)
 have hN2:N0≤w2.heap.size:=by have:=HIa.out.n5.2.2.2;have:=hm2.lt;omega
 have hI3:=hI2.below hb3 hN2
 have hK3:Kept W (w2.alloc (.cells #[.int .i64 s1,.int .i64 s2] 136)) (BxS sb lb cb bm):=((Kept.of_below HBL.out _).then_ (hk2.mono (fun k hk => .inr (.inr (.inr hk)))) (fun k hk => .inl hk)).alloc _
 have hB3:Below N0 W (w2.alloc (.cells #[.int .i64 s1,.int .i64 s2] 136)):=((HBL.out.mono hN).trans hb2').trans (hb3.mono hN2)
 have hlt2:W.heap.size≤w2.heap.size:=by have:=hk2.1;simp at this;omega
 have hcs2:w2.cell? ⟨sb,0,none⟩=some (.int .i64 st.sp):=(Qb hI2.spb 0).trans rfl
 have qF0:w2.cell? ⟨lb,0,none⟩=some (.int .i64 st.lo):=(Qb hI2.lob 0).trans rfl
 have qGb:=Qc hI2.spb 0
 have qF9:=Qc hI2.lob 0
 have qts:∃ vc,w2.cell? ⟨cb,0,none⟩=some vc:=by obtain ⟨v,h,_⟩:=hI2.chb;exact ⟨v,(Qb h 0).trans rfl⟩
 have qF8:w2.frozen? ⟨cb,0,none⟩=false:=by obtain ⟨v,h,_⟩:=hI2.chb;exact Qc h 0
 obtain ⟨vc2,qts⟩:=qts
 obtain ⟨W3,hW3⟩:∃ W3,w2.alloc (.cells #[.int .i64 s1,.int .i64 s2] 136)=W3:=⟨_,rfl⟩
 have hn3:W3.heap[w2.heap.size]? = some (.cells #[.int .i64 s1,.int .i64 s2] 136 (0,0)):=by rw [← hW3];exact World.alloc_heap_new w2 _
 have hV3:Kd.R (Kd.int .i64) 3 W3 N0 (fun k => ¬ BxS sb lb cb bm k) (.slice Av so.length cv) so:=by rw [← hW3];exact Kd.R_kept HV.out hK3 (fun k hk=>hk)
 rw [hW3] at hI3 hK3 hB3 hb3
 have hc0:W3.cell? ⟨w2.heap.size,0,none⟩=some (.int .i64 s1):=(Qb hn3 0).trans rfl
 have hc1:W3.cell? ⟨w2.heap.size,1,none⟩=some (.int .i64 s2):=(Qb hn3 1).trans rfl
 have hcs:W3.cell? ⟨sb,0,none⟩=some (.int .i64 st.sp):=(Qb hI3.spb 0).trans rfl
 have hcl:W3.cell? ⟨lb,0,none⟩=some (.int .i64 st.lo):=(Qb hI3.lob 0).trans rfl
 obtain ⟨vc,hcb,hcr⟩:=hI3.chb
 have hcc:W3.cell? ⟨cb,0,none⟩=some vc:=(Qb hcb 0).trans rfl
 have hfs:=Qc hI3.spb 0
 have hfl:=Qc hI3.lob 0
 have hfc:=Qc hcb 0
 obtain ⟨q1,q2,q3,q4,q5,q6⟩:=hI3.n4
 have hsl:sb<w2.heap.size:=QY hI2.spb
 have hll:lb<w2.heap.size:=QY hI2.lob
 have hclt:cb<w2.heap.size:=by obtain ⟨_,h,_⟩:=hI2.chb;exact QY h
 have HI3:=Q0.mk hI3
 have HK3:=Q0.mk hK3
 have HB3:=Q0.mk hB3
 have HV3:=Q0.mk hV3
 have HCB:=Q0.mk hcb
 have qGE:Q0 (w2.heap.size<W3.heap.size):=⟨QY hn3⟩
 have hupd:=HU.out
 have HI2:=Q0.mk hI2
 have HK2:Q0 (Kept W w2 (BxS sb lb cb bm)):=⟨(Kept.of_below HBL.out _).then_ (hk2.mono (fun k hk => .inr (.inr (.inr hk)))) (fun k hk => .inl hk)⟩
 have HV2:=Q0.mk (Kd.R_kept HV.out HK2.out (fun k hk=>hk))
 have HB2:=Q0.mk ((HBL.out.mono hN).trans hb2')
 have HN2:=Q0.mk hN2
 clear hI3 hK3 hB3 hV3 hcb hI2 hb3 hN2 hm2 hk2 hb2 hb2' hlt2 hn3 HI HIa HV HBL hcr HS1 HS2 HU
 subst hW3
 by_cases hu:st.sp<s1∨(s1=st.sp∧s2<st.lo)
 ·
  rw [if_pos hu] at hupd
  subst hupd
  have hg:(decide (st.sp<s1)=true)∨(decide (st.sp<s1)=false∧(s1==st.sp)=true∧decide (s2<st.lo)=true):=by
   by_cases h1:st.sp<s1
   · exact .inl (decide_eq_true h1)
   ·
    rcases hu with h|⟨h2,h3⟩
    · exact absurd h h1
    · exact .inr ⟨decide_eq_false h1,by simpa using h2,decide_eq_true h3⟩
  rcases hg with hg1|⟨hg1,hg2,hg3⟩
  ·
   go_wp2
   go_region
   go_wp2
   refine bodyPost_ret (results_none rfl _ _ _) rfl ?_
   obtain ⟨g1,g2,g3⟩:=HI2.out.put (s1:=s1) (s2:=s2) HV2.out
   have hsz:(((w2.setCell ⟨cb,0,none⟩ (.slice Av so.length cv)).setCell ⟨sb,0,none⟩ (.int .i64 s1)).setCell ⟨lb,0,none⟩ (.int .i64 s2)).heap.size=w2.heap.size:=by simp
   have hbb:=YA (Q4 (Below.refl (((w2.setCell ⟨cb,0,none⟩ (.slice Av so.length cv)).setCell ⟨sb,0,none⟩ (.int .i64 s1)).setCell ⟨lb,0,none⟩ (.int .i64 s2)).heap.size (((w2.setCell ⟨cb,0,none⟩ (.slice Av so.length cv)).setCell ⟨sb,0,none⟩ (.int .i64 s1)).setCell ⟨lb,0,none⟩ (.int .i64 s2))) (.cells #[.int .i64 s1,.int .i64 s2] 136))
   exact ⟨⟨_,rfl⟩,g1.below hbb (by rw [hsz];exact HN2.out),(HK2.out.then_ g2 (fun k hk => .inl hk)).below hbb,(HB2.out.trans g3).trans (hbb.mono (by rw [hsz];exact HN2.out))⟩
  ·
   go_wp2
   go_region
   go_wp2
   refine bodyPost_ret (results_none rfl _ _ _) rfl ?_
   obtain ⟨g1,g2,g3⟩:=HI2.out.put (s1:=s1) (s2:=s2) HV2.out
   have hsz:(((w2.setCell ⟨cb,0,none⟩ (.slice Av so.length cv)).setCell ⟨sb,0,none⟩ (.int .i64 s1)).setCell ⟨lb,0,none⟩ (.int .i64 s2)).heap.size=w2.heap.size:=by simp
   have hbb:=YA (Q4 (Below.refl (((w2.setCell ⟨cb,0,none⟩ (.slice Av so.length cv)).setCell ⟨sb,0,none⟩ (.int .i64 s1)).setCell ⟨lb,0,none⟩ (.int .i64 s2)).heap.size (((w2.setCell ⟨cb,0,none⟩ (.slice Av so.length cv)).setCell ⟨sb,0,none⟩ (.int .i64 s1)).setCell ⟨lb,0,none⟩ (.int .i64 s2))) (.cells #[.int .i64 s1,.int .i64 s2] 136))
   exact ⟨⟨_,rfl⟩,g1.below hbb (by rw [hsz];exact HN2.out),(HK2.out.then_ g2 (fun k hk => .inl hk)).below hbb,(HB2.out.trans g3).trans (hbb.mono (by rw [hsz];exact HN2.out))⟩
 ·
  rw [if_neg hu] at hupd
  subst hupd
  have hg1:decide (st.sp<s1)=false:=decide_eq_false (fun h=>hu (.inl h))
  by_cases he:s1=st.sp
  ·
   have hg2:(s1==st.sp)=true:=by simpa using he
   have hg3:decide (s2<st.lo)=false:=decide_eq_false (fun h=>hu (.inr ⟨he,h⟩))
   clear he hu
   go_wp2
   refine bodyPost_ret (results_none rfl _ _ _) rfl ?_
   exact ⟨⟨_,rfl⟩,HI3.out,HK3.out,HB3.out⟩
  ·
   have hg2:(s1==st.sp)=false:=by simpa using he
   clear he hu
   go_wp2
   refine bodyPost_ret (results_none rfl _ _ _) rfl ?_
   exact ⟨⟨_,rfl⟩,HI3.out,HK3.out,HB3.out⟩
end
theorem qoM (cells:List Jd) (sets:List Int) (many:Int) (d i:Nat) (so:List Int) (x:Int) (st:BSt) (h:i+(d+1)=sets.length) :
  QG.lp cells sets many (d+1) so x st=QG.lp cells sets many d so x (QG.cz cells sets many d (so++[(i:Int)]) (Go.bits .or .i64 x (rd sets (i:Int))) st):=by
 have e:sets.length-(d+1)=i:=by omega
 rw [QG.lp,e,QG.cz]
 simp
theorem qeS {W:World} {B c:Nat} {A:Option Addr} {mix:List Int} {ok:Nat→Prop} (h:Kd.R (Kd.int .i64) 3 W B ok (.slice A mix.length c) mix) (hl:mix.length≤10) (x:Int) :
  ∃ v' w',(Builtin.append_ #[37,37] 37 #[.slice A mix.length mix.length,.slice (some ⟨W.heap.size,0,none⟩) 1 1]).run Try.prog (W.alloc (.cells #[.int .i64 x] 3)) = .ok v' w' ∧
   Kd.R (Kd.int .i64) 3 w' W.heap.size (fun _=>True) v' (mix++[x])∧W.grownBy w' none:=by
 have hC:=(Kd.R_reads' h).2.2
 have hinf:(Try.prog.info? 3).map (fun i=>(i.zero,i.size,i.bytes))=some (some (.int .i64 0),1,8):=by kernel_rfl
 obtain ⟨i0,hi,hz0,hz1,hz2⟩:=info_parts hinf
 have hb1:Below W.heap.size W (W.alloc (.cells #[.int .i64 x] 3)):=(Below.refl _ W).alloc (Nat.le_refl _) _
 have hnews:∀ j u,[Value.int .i64 x][j]? = some u→(W.alloc (.cells #[.int .i64 x] 3)).cell? (Addr.add ⟨W.heap.size,0,none⟩ j)=some u:=by
  intro j u hj
  have hj0:j=0:=by
   have:=(List.getElem?_eq_some_iff.1 hj).1
   simpa using this
  subst hj0
  rw [show Addr.add ⟨W.heap.size,0,none⟩ 0=(⟨W.heap.size,0,none⟩:Addr) by simp [Addr.add]]
  rw [← hj]
  exact (Qb (World.alloc_heap_new W _) 0).trans rfl
 have fin:∀ (v':Value) (w':World),w'.ownsRow (W.alloc (.cells #[.int .i64 x] 3)).heap.size 3 1 v' (mix.length+1) (mix.map (Value.int .i64)++[.int .i64 x])→(W.alloc (.cells #[.int .i64 x] 3)).grownBy w' none→Kd.R (Kd.int .i64) 3 w' W.heap.size (fun _=>True) v' (mix++[x])∧W.grownBy w' none:=by
  intro v' w' ho hg
  refine ⟨Kd.R_of_own (qaD (base:=(W.alloc (.cells #[.int .i64 x] 3)).heap.size) ?_ (by simp)) (fun _ _=>trivial),(World.grownBy_alloc W _ none).trans hg⟩
  have e1:(mix++[x]).length=mix.length+1:=by simp
  have e2:encs (Value.int .i64) (mix++[x])=mix.map (Value.int .i64)++[.int .i64 x]:=by simp [encs]
  rw [e1,e2]
  exact ho
 cases A with
 | none =>
  have hm:mix=[]:=by
   by_cases hz:0<mix.length
   · obtain ⟨ad,e,_⟩:=qaR (W:=W) hC (Below.refl _ _) (by simpa using hz);cases e
   · exact List.eq_nil_of_length_eq_zero (by omega)
  subst hm
  obtain ⟨v',w',hrun,r1,r2,_⟩:=run_append_own (P:=Try.prog) (W.alloc (.cells #[.int .i64 x] 3)) (W.alloc (.cells #[.int .i64 x] 3)).heap.size 37 37 3 i0 (.int .i64 0) 1 8 Try.underlying37 hi hz0 hz1 hz2 rfl (by decide) (.slice none 0 0) 0 [] (World.ownsRow_nil _ _ 3 1) ⟨W.heap.size,0,none⟩ 1 1 [.int .i64 x] rfl hnews (by simp [Value.oneCell']) (by decide) (by decide) (Nat.le_refl _)
  exact ⟨v',w',hrun,fin v' w' (by simpa using r1) (by simpa [Value.ownBlock] using r2)⟩
 | some ad =>
  obtain ⟨v',w',hrun,r1,r2⟩:=run_append_arg_grows (P:=Try.prog) (W.alloc (.cells #[.int .i64 x] 3)) 37 37 3 i0 (.int .i64 0) 1 8 Try.underlying37 hi hz0 hz1 hz2 rfl (by decide) ad mix.length mix.length (mix.map (Value.int .i64)) (by simp) (fun j u hj=>by
   obtain ⟨ad',e,hc⟩:=qaR (w:=W) (W:=W.alloc (.cells #[.int .i64 x] 3)) hC hb1 (by have:=(List.getElem?_eq_some_iff.1 hj).1;omega)
   cases e
   exact hc j u hj) ⟨W.heap.size,0,none⟩ 1 1 [.int .i64 x] rfl hnews (by omega) (by simp only [maxLen];omega) (by omega)
  exact ⟨v',w',hrun,fin v' w' r1 r2⟩
theorem qct {P:Program} {ops:Array Oper} {Q:Exit→Act→World→Prop} {o:Oper} {a:Act} {W W1:World} {K:Act→World→Prop} (hw:Region.wanted o (yielded ops a.tmps)=true) (s x:Operand) (t t1:TypeId)
  (ho:o.op = .call { callee:=.builtin .append,args:=#[s,x],argTypes:=#[t,t] }) (hty:o.type=t1) {vs vx v:Value} (hs:a.eval s=vs) (hx:a.eval x=vx) (hrun:(Builtin.append_ #[t,t] t1 #[vs,vx]).run P W = .ok v W1) (h:K (a.put o.dst v) W1) :
  if Region.wanted o (yielded ops a.tmps)=true then Oper.wp P o a W K Q else K (a.put o.dst undef) W:=by
 rw [if_pos hw]
 subst hty
 unfold Oper.wp execOp
 simp only [ho,resolve,invoke,builtin,Sem.run_bind,Sem.run_pure,Result.andThen_ok,List.map_toArray,List.map_cons,List.map_nil,hs,hx,hrun]
 exact h
theorem qq9 {P : Program} {ops : Array Oper} {Q : Exit → Act → World → Prop} {oi : Oper} {N : Option Tmp} {a : Act} {w : World} {K : Act → World → Prop} {f : FuncId} {fn : Func} {ao : Array Operand} {ts : Array TypeId} (hf : P.funcs[f]? = some fn) (hname : (fn.name == "runtime.NumGoroutine") = false) (hb : fn.body.isSome = true) (args : Array Value) (t : Tmp) (bound caps : Array Value)
  (hw:Region.wanted oi (yielded ops a.tmps)=true) (hN:oi.dst=N) (hop:oi.op = .call { callee:=.value (.tmp t),args:=ao,argTypes:=ts }) (hev:a.eval (.tmp t) = .func (.func f) bound caps) (hargs:bound++ao.map a.eval++caps=args)
  (h:Calls P f args w fun e w' => ∃ v,e = .returned v∧K (a.put N v) w'):if Region.wanted oi (yielded ops a.tmps)=true then Oper.wp P oi a w K Q else K (a.put N undef) w:=by
 refine ql4 f args hw hN ?_ h
 have he:=qaY hf hname hb args w
 unfold execOp
 simp [hop,resolve,Deferred.ofValue,invoke,hev,hargs,he]
section
variable {N0 seb sb lb cb tb fb bm:Nat} {A:Option Addr} {c:Nat} {cells:List Jd} {At:Option Addr} {ct:Nat} {sets:List Int}
attribute [-go_sem] Builtin.append_
set_option maxHeartbeats 4000000 in
set_option maxRecDepth 100000 in
theorem KU.calls (many:Int) (hn:sets.length≤8):∀ (d0:Nat) (v:Value) (so:List Int) (x:Int) (st:BSt) (W:World),((so=[]∧d0=sets.length) ∨ ∃ (p:List Int) (l:Nat),so=p++[(l:Int)]∧l+1+d0=sets.length)→so.length+d0≤sets.length →
  BxI N0 seb sb lb cb tb fb bm A c cells At ct sets W st→N0≤W.heap.size→Kd.R (Kd.int .i64) 3 W N0 (fun k => ¬ BxS sb lb cb bm k) v so→(Lit.int .i64 x).wf=true →
  Calls Try.prog 90 #[v,.agg #[.int .i64 x],.int .i64 many,.pointer (some ⟨seb,0,none⟩),.pointer (some ⟨sb,0,none⟩),.pointer (some ⟨lb,0,none⟩),.pointer (some ⟨cb,0,none⟩),.pointer (some ⟨tb,0,none⟩),.pointer (some ⟨fb,0,none⟩)] W
   fun e w'=>(∃ u,e = .returned u)∧BxI N0 seb sb lb cb tb fb bm A c cells At ct sets w' (QG.cz cells sets many d0 so x st)∧Kept W w' (BxS sb lb cb bm)∧Below N0 W w':=by
 intro d0
 induction d0 using Nat.strongRecOn with
 | ind d0 ih =>
 intro v so x st W hfrom hlen hI hN hv hx
 by_cases hm:(so.length:Int)=many
 · subst hm;rw [QG.cz,if_pos rfl];exact KU.leaf v so x hI hN hv hx
 ·
  obtain ⟨fin,hfin⟩:∃ fin,QG.cz cells sets many d0 so x st=fin:=⟨_,rfl⟩
  rw [hfin]
  rw [QG.cz,if_neg hm] at hfin
  have hm2:((so.length:Int)==many)=false:=by simpa using hm
  obtain ⟨Av,cv,rfl,hcv,hCv⟩:=Kd.R_reads hv
  have qqm:=Try.underlying139
  have hbl:=Q4 (Below.refl W.heap.size W) (.cells #[.int .i64 x] 139)
  have hIa:=hI.below hbl hN
  have hmx:so.length≤9223372036854775807:=hCv.2.1
  obtain ⟨W1,hW1⟩:∃ W1,W.alloc (.cells #[.int .i64 x] 139)=W1:=⟨_,rfl⟩
  have hx1:W1.heap[W.heap.size]? = some (.cells #[.int .i64 x] 139 (0,0)):=by rw [← hW1];exact World.alloc_heap_new W _
  have hC1:Kd.C (Kd.int .i64) W1 Av so.length so:=by rw [← hW1];exact Kd.C_below hCv hbl
  have hV1:Kd.R (Kd.int .i64) 3 W1 N0 (fun k => ¬ BxS sb lb cb bm k) (.slice Av so.length cv) so:=by rw [← hW1];exact Kd.R_below hv hbl
  rw [hW1] at hbl hIa
  have hlt:W.heap.size<W1.heap.size:=QY hx1
  have hbs:∀ k,BxS sb lb cb bm k→k<W.heap.size:=fun k hk=>by
   rcases hk with rfl|rfl|rfl|rfl
   · exact QY hI.spb
   · exact QY hI.lob
   · obtain ⟨_,h,_⟩:=hI.chb;exact QY h
   · exact hI.map.lt
  obtain ⟨fr,hfr⟩:∃ fr:Nat,fr+d0=sets.length:=⟨sets.length-d0,by omega⟩
  have hlast:so≠[]→0<so.length∧rd so ((so.length:Int)-1)=(fr:Int)-1:=fun h=>by
   rcases hfrom with ⟨h1,_⟩|⟨p,l,rfl,hl⟩
   · exact absurd h1 h
   ·
    refine ⟨by simp,?_⟩
    simp [rd,List.getD_eq_getElem?_getD]
    omega
  have hfirst:so=[]→fr=0:=fun h=>by
   rcases hfrom with ⟨h1,h2⟩|⟨p,l,rfl,hl⟩
   ·
    omega
   ·
    simp at h
  have HF:=Q0.mk hfin
  have HIA:=Q0.mk hIa
  have HBL:=Q0.mk hbl
  have HX1:=Q0.mk hx1
  have HV1:=Q0.mk hV1
  have HC1:=Q0.mk hC1
  have HFR:=Q0.mk hfr
  have HBS:=Q0.mk hbs
  clear hfin hIa hbl hx1 hV1 hC1 hfr hI hv hCv hfrom hbs hm
  go_enter Try.func90,Try.ntmps90
  go_upto_if 45 with (fail)
  go_cut [13] (fun v13 wc=>v13 = .int .i64 (fr:Int)∧wc=W1)
  case first =>
   by_cases hso:so=[]
   ·
    have h0:=hfirst hso;subst h0
    have hl1:¬ (0<so.length):=by rw [hso];decide
    have hl0:decide (0<so.length)=false:=decide_eq_false hl1;clear hso hlast hfirst
    go_wp2
    go_meet
    case rel=>exact ⟨rfl,rfl⟩
   ·
    obtain ⟨hp,hl⟩:=hlast hso;obtain ⟨ad,ea,hxl⟩:=Kd.at_int HC1.out ((so.length:Int)-1) (by omega) (by omega);subst ea;rw [hl] at hxl;rw [show ((so.length:Int)-1).toNat=so.length-1 by omega] at hxl;have hl0:decide (0<so.length)=true:=decide_eq_true hp
    have qGa:fr≤8:=by have:=HFR.out;omega
    have hw1:((fr:Int)-1+1)=(fr:Int):=by omega
    clear hlast hfirst hl hso
    go_wp2
    go_meet
    case rel=>exact ⟨by rw [← hw1],rfl⟩
  case rest =>
   obtain ⟨rfl,rfl⟩:=hcut
   clear hlast hfirst
   go_wp2
   go_loopg [14] d0 (fun d v14 wr => ∃ (i:Nat),v14 = .int .i64 (i:Int)∧Q0 (i+d=sets.length∧d≤d0)∧Q0 (∃ st',BxI N0 seb sb lb cb tb fb bm A c cells At ct sets wr st'∧QG.lp cells sets many d so x st'=fin)∧Q0 (Kept wc wr (BxS sb lb cb bm))∧Q0 (Below N0 wc wr))
   case atStart=>exact ⟨fr,rfl,⟨HFR.out,Nat.le_refl _⟩,⟨st,HIA.out,HF.out⟩,⟨Kept.refl _ _⟩,⟨Below.refl _ _⟩⟩
   case round =>
    obtain ⟨i,rfl,HD,HS,HK,HB⟩:=hrel;obtain ⟨st',hI',hlp⟩:=HS.out;have htb:wr.cell? ⟨tb,0,none⟩=some (.slice At sets.length ct):=(Qb hI'.tbx 0).trans rfl;have HI':=Q0.mk hI';have HLP:=Q0.mk hlp
    have hn9:sets.length≤9223372036854775807:=by omega
    clear hI' hlp HS
    by_cases hi:i<sets.length
    ·
     obtain ⟨d,rfl⟩:∃ d,gk=d+1:=⟨gk-1,by have:=HD.out;omega⟩;have hDD:=HD.out;obtain ⟨tr,cr,er,_,_,_,_⟩:=Kd.R_form HI'.out.row (by omega)
     injection er with e1 _ e2
     subst e1 e2;obtain ⟨ad,ea,hel⟩:=Kd.at_int (Kd.R_reads' HI'.out.row).2.2 (i:Int) (by omega) (by omega)
     injection ea with ea
     subst ea;rw [Int.toNat_natCast] at hel
     have hel:wr.cell? ⟨tr,i,none⟩=some (.int .i64 (rd sets (i:Int))):=by rwa [KW] at hel
     have hfb:wr.cell? ⟨fb,0,none⟩=some (.func (.func 90) #[] #[.pointer (some ⟨seb,0,none⟩),.pointer (some ⟨sb,0,none⟩),.pointer (some ⟨lb,0,none⟩),.pointer (some ⟨cb,0,none⟩),.pointer (some ⟨tb,0,none⟩),.pointer (some ⟨fb,0,none⟩)]):=(Qb HI'.out.fbx 0).trans rfl;have hxr:wr.heap[W.heap.size]? = some (.cells #[.int .i64 x] 139 (0,0)):=Kw HX1.out HK.out (fun h=>by have:=HBS.out _ h;omega);have hx0:wr.cell? ⟨W.heap.size,0,none⟩=some (.int .i64 x):=(Qb hxr 0).trans rfl;have hsz:wc.heap.size≤wr.heap.size:=HK.out.1;have hVr:Kd.R (Kd.int .i64) 3 wr.drew N0 (fun k => ¬ BxS sb lb cb bm k) (.slice Av so.length cv) so:=Kd.R_drew (Kd.R_kept HV1.out HK.out (fun k hk=>hk));obtain ⟨v1,w1,hrun',hr1,hg1⟩:=qeS hVr (by omega) (i:Int);have hg0:wr.grownBy w1 none:=WQ hg1;have hb1:Below wr.heap.size wr w1:=(Below.refl _ _).grown hg0 (Nat.le_refl _) (fun k e=>by cases e);have qDJ:=WE (P:=Try.prog) 37 3 Try.underlying37 rfl Av so.length cv hcv;obtain ⟨or,hor⟩:∃ o,Go.bits .or .i64 x (rd sets (i:Int))=o:=⟨_,rfl⟩;have qkS:=HLP.out;rw [qoM cells sets many d i so x st' hDD.1,hor] at qkS
     have hworz:(Lit.int .i64 or).wf=true:=by rw [← hor];exact qrA _ _ _ _
     have hNr:N0≤wr.heap.size:=by omega
     have hN1:N0≤w1.heap.size:=by have:=hb1.size;omega
     have hr1':Kd.R (Kd.int .i64) 3 w1 N0 (fun k => ¬ BxS sb lb cb bm k) v1 (so++[(i:Int)]):=Kd.R_mono (Kd.R_bound (Kd.R_lower (Kd.R_mono (Kd.R_bound hr1) (fun k hk=>(⟨hk.2.1,trivial⟩:wr.drew.heap.size≤k∧True))) (show N0≤wr.drew.heap.size from hNr))) (fun k hk e=>by have h1:=HBS.out k e;have h2:wr.heap.size≤k:=hk.1.1;omega);have hcall:=ih d (by omega) v1 (so++[(i:Int)]) or st' w1 (.inr ⟨so,i,rfl,by omega⟩) (by simp;omega) (HI'.out.below hb1 hNr) hN1 hr1' hworz
     have hSb:∀ z:World,Below wr.heap.size wr z→z.cell? ⟨fb,0,none⟩=some (.func (.func 90) #[] #[.pointer (some ⟨seb,0,none⟩),.pointer (some ⟨sb,0,none⟩),.pointer (some ⟨lb,0,none⟩),.pointer (some ⟨cb,0,none⟩),.pointer (some ⟨tb,0,none⟩),.pointer (some ⟨fb,0,none⟩)])∧z.cell? ⟨W.heap.size,0,none⟩=some (.int .i64 x)∧z.cell? ⟨tb,0,none⟩=some (.slice (some ⟨tr,0,none⟩) sets.length ct)∧z.cell? ⟨tr,i,none⟩=some (.int .i64 (rd sets (i:Int))):=fun z hz =>
      ⟨(hz.cell (World.block_lt_of_cell? wr _ hfb)).trans hfb,(hz.cell (World.block_lt_of_cell? wr _ hx0)).trans hx0,(hz.cell (World.block_lt_of_cell? wr _ htb)).trans htb,(hz.cell (World.block_lt_of_cell? wr _ hel)).trans hel⟩
     have htrS:¬ BxS sb lb cb bm tr:=HI'.out.row.1 tr rfl
     have hSk:∀ z:World,Kept w1 z (BxS sb lb cb bm)→z.cell? ⟨fb,0,none⟩=some (.func (.func 90) #[] #[.pointer (some ⟨seb,0,none⟩),.pointer (some ⟨sb,0,none⟩),.pointer (some ⟨lb,0,none⟩),.pointer (some ⟨cb,0,none⟩),.pointer (some ⟨tb,0,none⟩),.pointer (some ⟨fb,0,none⟩)])∧z.cell? ⟨W.heap.size,0,none⟩=some (.int .i64 x)∧z.cell? ⟨tb,0,none⟩=some (.slice (some ⟨tr,0,none⟩) sets.length ct)∧z.cell? ⟨tr,i,none⟩=some (.int .i64 (rd sets (i:Int))):=fun z hz=>by
      obtain ⟨q1,q2,q3,q4⟩:=hSb w1 hb1;refine ⟨YtmhomdohhihlcaaW.PrintWords.XF q1 hz (fun e => ?_),YtmhomdohhihlcaaW.PrintWords.XF q2 hz (fun e => ?_),YtmhomdohhihlcaaW.PrintWords.XF q3 hz (fun e => ?_),YtmhomdohhihlcaaW.PrintWords.XF q4 hz htrS⟩
      ·
       obtain ⟨a1,a2,a3,a4⟩:=HI'.out.n3
       rcases e with e|e|e|e
       · exact a1 e
       · exact a2 e
       · exact a3 e
       · exact a4 e
      · have:=HBS.out _ e;exact absurd this (Nat.lt_irrefl _)
      ·
       obtain ⟨a1,a2,a3,a4⟩:=HI'.out.n2
       rcases e with e|e|e|e
       · exact a1 e
       · exact a2 e
       · exact a3 e
       · exact a4 e
     have HSk:=Q0.mk hSk;have HSb:=Q0.mk hSb;have HB1:=Q0.mk hb1;have qA2:=Q0.mk qkS;have HRUN:=Q0.mk (show (Builtin.append_ #[37,37] 37 #[.slice Av so.length so.length,.slice (some ⟨wr.heap.size,0,none⟩) 1 1]).run Try.prog (wr.alloc (.cells #[.int .i64 (i:Int)] 3)).drew = .ok v1 w1 from hrun');have HCALL:=Q0.mk hcall;clear hSk htrS hSb hb1 qkS hrun' hcall hg1 hg0 hr1 hr1' hworz hxr hDD
     go_wp2
     go_upto_region 11 with (fail)
     go_region_held3 (fun z=>z.cell? ⟨fb,0,none⟩=some (.func (.func 90) #[] #[.pointer (some ⟨seb,0,none⟩),.pointer (some ⟨sb,0,none⟩),.pointer (some ⟨lb,0,none⟩),.pointer (some ⟨cb,0,none⟩),.pointer (some ⟨tb,0,none⟩),.pointer (some ⟨fb,0,none⟩)])∧z.cell? ⟨W.heap.size,0,none⟩=some (.int .i64 x)∧z.cell? ⟨tb,0,none⟩=some (.slice (some ⟨tr,0,none⟩) sets.length ct)∧z.cell? ⟨tr,i,none⟩=some (.int .i64 (rd sets (i:Int))))
      (first|exact HSb.out _ (YA (Below.refl _ _))|exact HSb.out _ (YA (Q4 (Below.refl _ _) _))|exact HSb.out _ (Q4 (YA (Below.refl _ _)) _)|exact HSb.out _ HB1.out|exact HSk.out _ hKe|go_keep)
      (first|(refine qct ?hwA (.tmp 66) (.tmp 68) 37 37 rfl rfl rfl rfl HRUN.out ?_;(case hwA=>rfl))|(refine qq9 Try.func90 ?hnm rfl #[v1,.agg #[.int .i64 or],.int .i64 many,.pointer (some ⟨seb,0,none⟩),.pointer (some ⟨sb,0,none⟩),.pointer (some ⟨lb,0,none⟩),.pointer (some ⟨cb,0,none⟩),.pointer (some ⟨tb,0,none⟩),.pointer (some ⟨fb,0,none⟩)] 60 #[] #[.pointer (some ⟨seb,0,none⟩),.pointer (some ⟨sb,0,none⟩),.pointer (some ⟨lb,0,none⟩),.pointer (some ⟨cb,0,none⟩),.pointer (some ⟨tb,0,none⟩),.pointer (some ⟨fb,0,none⟩)] ?hwC rfl rfl ?hevC ?hagC ?_;(case hnm=>kernel_rfl);(case hwC=>rfl);(case hevC=>rfl);(case hagC=>simp only [List.map_toArray,List.map_cons,List.map_nil];rfl);refine HCALL.out.mono ?_;rintro e W' ⟨⟨u,rfl⟩,hIe,hKe,hBe⟩;refine ⟨u,rfl,?_⟩))
     all_goals
      have HIE:=Q0.mk hIe;have HKE:=Q0.mk hKe;have HBE:=Q0.mk hBe;clear hIe hKe hBe
      go_wp2
      go_roundg d
      case measure=>omega
      case rel=>exact ⟨i+1,by simp,⟨by have:=HD.out;omega⟩,⟨_,HIE.out,qA2.out⟩,⟨(HK.out.below HB1.out).then_ HKE.out (fun k hk => .inl hk)⟩,⟨(HB.out.trans (HB1.out.mono hNr)).trans HBE.out⟩⟩
    ·
     have qkS:=HLP.out
     have hd0:gk=0:=by have:=HD.out;omega
     subst hd0;rw [QG.lp] at qkS;subst qkS
     go_wp2
     go_end0
     exact ⟨⟨_,rfl⟩,HI'.out,((Kept.of_below HBL.out _).then_ HK.out (fun k hk => .inl hk)),(HBL.out.mono hN).trans HB.out⟩
end
end
section
def wi (a b c:Int):Bool:=decide (b≤a∧a≤c)
theorem OA {a b c:Int}:wi a b c=true↔b≤a∧a≤c:=by simp [wi]
theorem Uo (a b c:Int) (w:World):Calls Try.prog 65 #[.int .i64 a,.int .i64 b,.int .i64 c] w fun e w'=>e = .returned (.bool (wi a b c))∧Z3 w w':=by
 refine Qv.calls a b c (wi a b c) w ?_
 unfold Qv.f wi
 by_cases h:b≤a
 · rw [if_pos h];simp [h]
 · rw [if_neg h];simp [h]
def QG.okc:List Jd→Bool→Bool
 | [],b=>b
 | c::cs,b=>QG.okc cs (b&&wi c.f0 0 10000&&wi c.f1 0 10000)
def QG.rowf (m:Int):List Int→Int→Int→Option Int
 | [],_,acc=>some acc
 | c::cs,last,acc=>if wi c (last+1) (m-1)=true then QG.rowf m cs c (Go.bits .or .i64 acc (shl .i64 1 c)) else none
def QG.rows (m:Int):List (List Int)→Option (List Int)
 | []=>some []
 | l::ls=>(QG.rowf m l (-1) 0).bind fun x=>(QG.rows m ls).map (x :: ·)
def QG.tries (cells:List Jd) (sets:List Int):Nat→Nat→BSt→BSt
 | 0,_,st=>st
 | k+1,many,st=>QG.tries cells sets k (many+1) (QG.cz cells sets (many:Int) sets.length [] 0 st)
def QG.g (l0:List Jd) (l1:List (List Int)) (a2:Int):List Int × Int × Int × Int :=
 match QG.rows (l0.length:Int) l1 with
 | none=>([],0,0,94)
 | some sets =>
  if QG.okc l0 (decide ((l0.length:Int)≤12)&&decide ((l1.length:Int)≤8))=true then
   if wi a2 0 8=true then
    ((QG.tries l0 sets (min a2.toNat sets.length+1) 0 ⟨[],0,0⟩).ch,(QG.tries l0 sets (min a2.toNat sets.length+1) 0 ⟨[],0,0⟩).sp,(QG.tries l0 sets (min a2.toNat sets.length+1) 0 ⟨[],0,0⟩).lo,0)
   else ([],0,0,7)
  else ([],0,0,94)
def QG.f (l0:List Jd) (l1:List (List Int)) (a2:Int):Option (List Int × Int × Int × Int) :=
 if l1.length≤35184372088832 then some (QG.g l0 l1 a2) else none
structure Bx0 (w W:World):Prop where
 c:W.heap[w.heap.size]? = some (.cells #[.slice none 0 0] 37 (0,0))
 s:W.heap[w.heap.size+1]? = some (.cells #[.int .i64 0] 3 (0,0))
 l:W.heap[w.heap.size+1+1]? = some (.cells #[.int .i64 0] 3 (0,0))
 below:Below w.heap.size w W
theorem Bx0.keep {w W W1:World} (h:Bx0 w W) (hb:Below W.heap.size W W1):Bx0 w W1:=⟨Qp h.c hb,Qp h.s hb,Qp h.l hb,h.below.trans (hb.mono h.below.size)⟩
theorem Bx0.start (w:World):Bx0 w (((w.alloc (.cells #[.slice none 0 0] 37)).alloc (.cells #[.int .i64 0] 3)).alloc (.cells #[.int .i64 0] 3)):=by
 refine ⟨Q2 (Q2 (World.alloc_heap_new w _) _) _,Q2 ?_ _,?_,Q4 (Q4 (Q4 (Below.refl _ _) _) _) _⟩
 ·
  have:=World.alloc_heap_new (w.alloc (.cells #[.slice none 0 0] 37)) (.cells #[.int .i64 0] 3)
  rwa [World.size_alloc] at this
 ·
  have:=World.alloc_heap_new ((w.alloc (.cells #[.slice none 0 0] 37)).alloc (.cells #[.int .i64 0] 3)) (.cells #[.int .i64 0] 3)
  rwa [World.size_alloc,World.size_alloc] at this
theorem Bx0.again {w W:World} (h:Bx0 w W):Bx0 w (((W.setCell ⟨w.heap.size,0,none⟩ (.slice none 0 0)).setCell ⟨w.heap.size+1,0,none⟩ (.int .i64 0)).setCell ⟨w.heap.size+1+1,0,none⟩ (.int .i64 0)) :=
  ⟨Qu (Qu (QJ h.c 0 _ rfl) (p:=⟨w.heap.size+1,0,none⟩) (by simp) _) (p:=⟨w.heap.size+1+1,0,none⟩) (by simp;omega) _,
   Qu (QJ (Qu h.s (p:=⟨w.heap.size,0,none⟩) (by simp) _) 0 _ rfl) (p:=⟨w.heap.size+1+1,0,none⟩) (by simp) _,
   QJ (Qu (Qu h.l (p:=⟨w.heap.size,0,none⟩) (by simp;omega) _) (p:=⟨w.heap.size+1,0,none⟩) (by simp) _) 0 _ rfl,
   Q5 (Q5 (Q5 h.below (Nat.le_refl _)) (by omega)) (by omega)⟩
theorem results40 (tmps:Array Value) (W:World) (g1 g2 g3:Nat) (v1:Value) (n2 n3:Int) (h6:tmps.getD 6 undef = .pointer (some ⟨g1,0,none⟩)) (h7:tmps.getD 7 undef = .pointer (some ⟨g2,0,none⟩)) (h8:tmps.getD 8 undef = .pointer (some ⟨g3,0,none⟩))
  (k1:W.heap[g1]? = some (.cells #[v1] 37 (0,0))) (k2:W.heap[g2]? = some (.cells #[.int .i64 n2] 3 (0,0))) (k3:W.heap[g3]? = some (.cells #[.int .i64 n3] 3 (0,0))) :
  (results Try.f40 tmps).run Try.prog W = .ok (.tuple #[v1,.int .i64 n2,.int .i64 n3,tmps.getD 9 undef]) W:=by
 have c1:W.cell? ⟨g1,0,none⟩=some v1:=(Qb k1 0).trans rfl
 have c2:W.cell? ⟨g2,0,none⟩=some (.int .i64 n2):=(Qb k2 0).trans rfl
 have c3:W.cell? ⟨g3,0,none⟩=some (.int .i64 n3):=(Qb k3 0).trans rfl
 have h6':tmps[6]?.getD undef = .pointer (some ⟨g1,0,none⟩):=by simpa using h6
 have h7':tmps[7]?.getD undef = .pointer (some ⟨g2,0,none⟩):=by simpa using h7
 have h8':tmps[8]?.getD undef = .pointer (some ⟨g3,0,none⟩):=by simpa using h8
 simp [results,Try.results40,asAddr,h6',h7',h8',go_sem,c1,c2,c3]
theorem qg3:∀ (l:List Jd) (b:Bool),QG.okc l b=true→b=true
 | [],b,h=>h
 | c::cs,b,h=>by
  have:=qg3 cs _ h
  cases b with
  | true=>rfl
  | false=>simp at this
structure Bx1 (w:World) (tb n ct:Nat) (At:Option Addr) (sl:List Int) (W:World):Prop where
 x:Bx0 w W
 t:W.heap[tb]? = some (.cells #[.slice At n ct] 137 (0,0))
 r:Kd.R (Kd.int .i64) 139 W w.heap.size (fun _=>True) (.slice At n ct) sl
theorem Bx1.keep {w W W1:World} {tb n ct:Nat} {At:Option Addr} {sl:List Int} (h:Bx1 w tb n ct At sl W) (hb:Below W.heap.size W W1):Bx1 w tb n ct At sl W1:=⟨h.x.keep hb,Qp h.t hb,Kd.R_below h.r hb⟩
theorem Bx1.put {w W:World} {tb n ct tr:Nat} {sl:List Int} (h:Bx1 w tb n ct (some ⟨tr,0,none⟩) sl W) (i:Nat) (x:Int):Bx1 w tb n ct (some ⟨tr,0,none⟩) (sl.set i x) (W.setCell ⟨tr,i,none⟩ (.int .i64 x)):=by
 obtain ⟨cs,hcs⟩:=Kd.R_typed h.r tr rfl
 have hne:∀ {g t:Nat} {c:Array Value},W.heap[g]? = some (.cells c t (0,0))→t≠139→g≠tr:=fun {g t c} hg ht e=>by
  rw [e,hcs] at hg
  injection hg with hg
  injection hg with _ hg
  exact ht hg.symm
 have hbt:w.heap.size≤tr:=Kd.R_base h.r tr rfl
 have h1:=(Kd.R_putg h.r (i:Int) x).1
 rw [Int.toNat_natCast] at h1
 exact ⟨⟨Qu h.x.c (p:=⟨tr,i,none⟩) (hne h.x.c (by decide)) _,Qu h.x.s (p:=⟨tr,i,none⟩) (hne h.x.s (by decide)) _,Qu h.x.l (p:=⟨tr,i,none⟩) (hne h.x.l (by decide)) _,Q5 h.x.below hbt⟩,Qu h.t (p:=⟨tr,i,none⟩) (hne h.t (by decide)) _,h1⟩
theorem qeF {W:World} {g g' t t':Nat} {c c':Array Value} (h:W.heap[g]? = some (.cells c t (0,0))) (h':W.heap[g']? = some (.cells c' t' (0,0))) (ht:t≠t'):g≠g':=fun e=>by
 rw [e,h'] at h
 injection h with h
 injection h with _ h
 exact ht h.symm
theorem Bx1.ready {w W:World} {tb n ct c:Nat} {At A:Option Addr} {sl:List Int} {l0:List Jd} (h:Bx1 w tb n ct At sl W) (hn:sl.length=n) (hC:Kd.C qbM w A l0.length l0) (hc:l0.length≤c) :
  BxI w.heap.size (W.heap.size+1) (w.heap.size+1) (w.heap.size+1+1) w.heap.size tb (W.heap.size+1+1) W.heap.size A c l0 At ct sl
   (((W.alloc (.map #[] 0)).alloc (.cells #[.slice A l0.length c,.map (some W.heap.size)] 142)).alloc (.cells #[.func (.func 90) #[] #[.pointer (some ⟨W.heap.size+1,0,none⟩),.pointer (some ⟨w.heap.size+1,0,none⟩),.pointer (some ⟨w.heap.size+1+1,0,none⟩),.pointer (some ⟨w.heap.size,0,none⟩),.pointer (some ⟨tb,0,none⟩),.pointer (some ⟨W.heap.size+1+1,0,none⟩)]] 143)) ⟨[],0,0⟩:=by
 subst hn
 obtain ⟨Wf,hWf⟩:∃ Wf,(((W.alloc (.map #[] 0)).alloc (.cells #[.slice A l0.length c,.map (some W.heap.size)] 142)).alloc (.cells #[.func (.func 90) #[] #[.pointer (some ⟨W.heap.size+1,0,none⟩),.pointer (some ⟨w.heap.size+1,0,none⟩),.pointer (some ⟨w.heap.size+1+1,0,none⟩),.pointer (some ⟨w.heap.size,0,none⟩),.pointer (some ⟨tb,0,none⟩),.pointer (some ⟨W.heap.size+1+1,0,none⟩)]] 143))=Wf:=⟨_,rfl⟩
 have hb:Below W.heap.size W Wf:=by rw [← hWf];exact Q4 (Q4 (Q4 (Below.refl _ _) _) _) _
 have hm:Wf.heap[W.heap.size]? = some (.map #[] 0):=by rw [← hWf];exact Q2 (Q2 (World.alloc_heap_new W _) _) _
 have hs:Wf.heap[W.heap.size+1]? = some (.cells #[.slice A l0.length c,.map (some W.heap.size)] 142 (0,0)):=by
  rw [← hWf]
  refine Q2 ?_ _
  have:=World.alloc_heap_new (W.alloc (.map #[] 0)) (.cells #[.slice A l0.length c,.map (some W.heap.size)] 142)
  rwa [World.size_alloc] at this
 have hf:Wf.heap[W.heap.size+1+1]? = some (.cells #[.func (.func 90) #[] #[.pointer (some ⟨W.heap.size+1,0,none⟩),.pointer (some ⟨w.heap.size+1,0,none⟩),.pointer (some ⟨w.heap.size+1+1,0,none⟩),.pointer (some ⟨w.heap.size,0,none⟩),.pointer (some ⟨tb,0,none⟩),.pointer (some ⟨W.heap.size+1+1,0,none⟩)]] 143 (0,0)):=by
  rw [← hWf]
  have:=World.alloc_heap_new ((W.alloc (.map #[] 0)).alloc (.cells #[.slice A l0.length c,.map (some W.heap.size)] 142)) (.cells #[.func (.func 90) #[] #[.pointer (some ⟨W.heap.size+1,0,none⟩),.pointer (some ⟨w.heap.size+1,0,none⟩),.pointer (some ⟨w.heap.size+1+1,0,none⟩),.pointer (some ⟨w.heap.size,0,none⟩),.pointer (some ⟨tb,0,none⟩),.pointer (some ⟨W.heap.size+1+1,0,none⟩)]] 143)
  rwa [World.size_alloc,World.size_alloc] at this
 rw [hWf]
 have qGe:=QY h.x.l
 have hltt:=QY h.t
 have hbw:Below w.heap.size w Wf:=h.x.below.trans (hb.mono h.x.below.size)
 have hrow:Kd.R (Kd.int .i64) 139 Wf w.heap.size (fun k => ¬ BxS (w.heap.size+1) (w.heap.size+1+1) w.heap.size W.heap.size k) (.slice At sl.length ct) sl:=by
  refine Kd.R_mono (Kd.R_bound (Kd.R_below h.r hb)) (fun k hk e => ?_)
  obtain ⟨_,_,_,q,hq,cs,hcs⟩:=hk
  have hq9:q=139:=by simpa [Kd.int,Kd.scalar] using hq
  subst hq9
  rcases e with e|e|e|e
  · exact qeF hcs (Qp h.x.s hb) (by decide) e
  · exact qeF hcs (Qp h.x.l hb) (by decide) e
  · exact qeF hcs (Qp h.x.c hb) (by decide) e
  · rw [e,hm] at hcs;cases hcs
 refine ⟨hs,Qp h.x.s hb,Qp h.x.l hb,⟨_,Qp h.x.c hb,Kd.R_nil _ _ _ _ _⟩,Qp h.t hb,hf,hrow,⟨_,_,hm,fun e he=>by simp at he⟩,Kd.C_below hC hbw,hc,⟨by omega,by omega,by omega,by omega⟩,
  ⟨qeF h.t h.x.s (by decide),qeF h.t h.x.l (by decide),qeF h.t h.x.c (by decide),by omega⟩,⟨by omega,by omega,by omega,by omega⟩,⟨by omega,by omega,by omega,by omega,by omega,by omega⟩,⟨by omega,by omega,by omega,by omega⟩,fun W' hb'=>Kd.C_below hC (hbw.trans hb')⟩
theorem qoI:(Try.prog.info? 139).map (fun i=>(i.zero,i.size,i.bytes))=some (some (.agg #[.int .i64 0]),1,8):=by kernel_rfl
set_option maxHeartbeats 8000000 in
set_option maxRecDepth 100000 in
theorem QG.calls (A0:Option Addr) (c0:Nat) (l0:List Jd) (A1:Option Addr) (c1:Nat) (l1:List (List Int)) (a2:Int) (r1:List Int) (r2 r3 r4:Int) (w:World) (hr0:Kd.C qbM w A0 l0.length l0) (hc0:l0.length≤c0) (hr1:Kd.C (Kd.slice 3 (Kd.int .i64)) w A1 l1.length l1) (hc1:l1.length≤c1) (h:QG.f l0 l1 a2=some (r1,r2,r3,r4)) :
  Calls Try.prog 40 #[.slice A0 l0.length c0,.slice A1 l1.length c1,.int .i64 a2] w fun e w' => ∃ v0_,e = .returned (.tuple #[v0_,.int .i64 r2,.int .i64 r3,.int .i64 r4])∧Kd.V (Kd.int .i64) 3 w' w.heap.size (fun k_=>w.heap.size≤k_) v0_ r1∧Below w.heap.size w w':=by
 obtain ⟨hsz,hg⟩:l1.length≤35184372088832∧QG.g l0 l1 a2=(r1,r2,r3,r4):=by
  unfold QG.f at h
  by_cases hs:l1.length≤35184372088832
  · rw [if_pos hs] at h;exact ⟨hs,Option.some.inj h⟩
  · rw [if_neg hs] at h;cases h
 clear h
 have qGf:l0.length≤9223372036854775807:=hr0.2.1
 have qBY:l1.length≤9223372036854775807:=hr1.2.1
 have HR0:=Q0.mk hr0
 have HR1:=Q0.mk hr1
 have HG:=Q0.mk hg
 have qmD:=Try.underlying136
 obtain ⟨ok,hok⟩:∃ ok,QG.okc l0 (decide ((l0.length:Int)≤12)&&decide ((l1.length:Int)≤8))=ok:=⟨_,rfl⟩
 have HOK:=Q0.mk hok
 have HX0:=Q0.mk (Bx0.start w)
 obtain ⟨ok1,hok1⟩:∃ b,(decide ((l0.length:Int)≤12)&&decide ((l1.length:Int)≤8))=b:=⟨_,rfl⟩
 rw [hok1] at HOK
 obtain ⟨W0,hW0⟩:∃ W0,((w.alloc (.cells #[.slice none 0 0] 37)).alloc (.cells #[.int .i64 0] 3)).alloc (.cells #[.int .i64 0] 3)=W0:=⟨_,rfl⟩
 rw [hW0] at HX0
 have qlK:=Q0.mk hok1
 clear hr0 hr1 hg hok hok1
 go_enter Try.func40,Try.ntmps40
 go_upto_region 1 with (fail)
 go_cut [10] (fun v10 wc=>v10 = .bool ok1∧wc=W0)
 case first =>
  by_cases h12:(l0.length:Int)≤12
  ·
   have g12:decide ((l0.length:Int)≤12)=true:=decide_eq_true h12
   by_cases h8:(l1.length:Int)≤8
   ·
    have g8:decide ((l1.length:Int)≤8)=true:=decide_eq_true h8
    go_wp2
    go_meet
    case rel=>exact ⟨by rw [← qlK.out,g12,g8];rfl,rfl⟩
   ·
    have g8:decide ((l1.length:Int)≤8)=false:=decide_eq_false h8
    go_wp2
    go_meet
    case rel=>exact ⟨by rw [← qlK.out,g12,g8];rfl,rfl⟩
  ·
   have g12:decide ((l0.length:Int)≤12)=false:=decide_eq_false h12
   go_wp2
   go_meet
   case rel=>exact ⟨by rw [← qlK.out,g12];rfl,rfl⟩
 case rest =>
  obtain ⟨rfl,rfl⟩:=hcut
  go_wp2
  go_loopg [10,32] l0.length (fun d v10 v32 wr => ∃ (b:Bool) (i:Nat),v10 = .bool b∧v32 = .int .i64 (i:Int)∧Q0 (i+d=l0.length)∧Q0 (QG.okc (l0.drop i) b=ok)∧Q0 (Bx0 w wr))
  case atStart=>exact ⟨ok1,0,rfl,rfl,⟨by omega⟩,⟨by simpa using HOK.out⟩,HX0⟩
  case round =>
   obtain ⟨b,i,rfl,rfl,HD,HO,HX⟩:=hrel
   by_cases hi:i<l0.length
   ·
    obtain ⟨d,rfl⟩:∃ d,gk=d+1:=⟨gk-1,by have:=HD.out;omega⟩;obtain ⟨ad,ea,hx0,hx1⟩:=qjs HR0.out (i:Int) (by omega) (by omega);subst ea;replace hx0:=(HX.out.below.cell (World.block_lt_of_cell? w _ hx0)).trans hx0;replace hx1:=(HX.out.below.cell (World.block_lt_of_cell? w _ hx1)).trans hx1;rw [Int.toNat_natCast] at hx0 hx1
    have ho2:QG.okc (l0.drop (i+1)) (b&&wi (Kb l0 (i:Int)).f0 0 10000&&wi (Kb l0 (i:Int)).f1 0 10000)=ok:=by
     have h5:=HO.out
     have e:Kb l0 (i:Int)=l0[i]:=by simp [Kb,List.getD_eq_getElem?_getD,List.getElem?_eq_getElem hi]
     rw [List.drop_eq_getElem_cons hi] at h5;rw [e]
     exact h5
    obtain ⟨e0,he0⟩:∃ e0,(Kb l0 (i:Int)).f0=e0:=⟨_,rfl⟩;obtain ⟨e1,he1⟩:∃ e1,(Kb l0 (i:Int)).f1=e1:=⟨_,rfl⟩;rw [he0] at hx0 ho2;rw [he1] at hx1 ho2;have HO2:=Q0.mk ho2;clear ho2 he0 he1 HO
    cases b with
    | false =>
     go_wp2
     go_roundg d
     case measure=>omega
     case rel=>exact ⟨false,i+1,rfl,by simp,⟨by have:=HD.out;omega⟩,⟨by simpa using HO2.out⟩,⟨HX.out.keep (Q4 (Below.refl _ _) _)⟩⟩
    | true =>
     obtain ⟨b1,hb1⟩:∃ b1,wi e0 0 10000=b1:=⟨_,rfl⟩
     cases b1 with
     | false =>
      have HO3:=HO2.out;rw [hb1] at HO3
      go_wp2_with (go_at_call 65;refine (Uo _ _ _ _).mono ?_;rintro e w' ⟨rfl,⟨nd,rfl⟩⟩)
      go_roundg d
      case measure=>omega
      case rel=>exact ⟨false,i+1,rfl,by simp,⟨by have:=HD.out;omega⟩,⟨by simpa using HO3⟩,⟨HX.out.keep (Q1 (Q4 (Below.refl _ _) _) _)⟩⟩
     | true =>
      have HO3:=HO2.out;rw [hb1] at HO3
      go_wp2_with (go_at_call 65;refine (Uo _ _ _ _).mono ?_;rintro e w' ⟨rfl,⟨nd,rfl⟩⟩)
      go_roundg d
      case measure=>omega
      case rel=>exact ⟨wi e1 0 10000,i+1,rfl,by simp,⟨by have:=HD.out;omega⟩,⟨by simpa using HO3⟩,⟨HX.out.keep (by repeat (first|exact Below.refl _ _|apply Q1|apply Q4))⟩⟩
   ·
    have hio:b=ok:=by
     have h5:=HO.out;rw [List.drop_eq_nil_of_le (by omega)] at h5
     exact h5
    subst hio;clear HD HO
    go_wp2_with ((with_reducible refine qs8 (.makeSlice 137 (.tmp 49) (.tmp 49)) rfl ?_);refine Kd.R_make (Kd.int .i64) w.heap.size 139 rfl (N:=50) rfl 137 _ _ rfl (l1.length:Int) rfl rfl Try.underlying137 (.agg #[.int .i64 0]) 8 qoI rfl (by decide) (by omega) 0 (ok:=fun _=>True) (okp:=fun _=>True) rfl (fun _ hk=>hk) trivial (by omega) (by simp;omega) HX.out.below HX.out.below.size ?_;intro v1 w1 hv1 hb1 hg1 hn1;obtain ⟨At,ct,ev,hct,hCt⟩:=Kd.R_reads hv1;rw [List.length_replicate,Int.toNat_natCast] at ev;subst ev)
    clear hi
    have hX1:Bx1 w w1.heap.size l1.length ct At (List.replicate l1.length 0) (w1.alloc (.cells #[.slice At l1.length ct] 137)):=by
     rw [Int.toNat_natCast] at hv1
     exact ⟨(HX.out.keep ((Below.refl _ wr).grown hg1 (Nat.le_refl _) (fun k e=>by cases e))).keep (Q4 (Below.refl _ _) _),World.alloc_heap_new _ _,Kd.R_below hv1 (Q4 (Below.refl _ _) _)⟩
    have hnt:w1.heap.size<(w1.alloc (.cells #[.slice At l1.length ct] 137)).heap.size:=by simp
    have HX1:=Q0.mk hX1;obtain ⟨rr,hrr⟩:∃ rr,QG.rows (l0.length:Int) l1=rr:=⟨_,rfl⟩;have HRR:=Q0.mk hrr;obtain ⟨tb,htb⟩:∃ tb,w1.heap.size=tb:=⟨_,rfl⟩;rw [htb] at HX1 ⊢;clear hX1 hrr hv1 hb1 hg1 hn1 hct hCt HX hnt
    go_loopg [53] l1.length (fun d v53 wr => ∃ (i:Nat),v53 = .int .i64 (i:Int)∧Q0 (i+d=l1.length)∧Q0 (∃ done:List Int,done.length=i∧rr=(QG.rows (l0.length:Int) (l1.drop i)).map (done ++ ·)∧Bx1 w tb l1.length ct At (done++List.replicate (l1.length-i) 0) wr))
    case atStart=>exact ⟨0,rfl,⟨by omega⟩,⟨[],rfl,by rw [List.drop_zero,HRR.out];simp,by simpa using HX1.out⟩⟩
    case round =>
     clear HX1 htb;obtain ⟨i,rfl,HD,HE⟩:=hrel;obtain ⟨done,hdl,hdr,hX⟩:=HE.out
     by_cases hi:i<l1.length
     ·
      obtain ⟨d,rfl⟩:∃ d,gk=d+1:=⟨gk-1,by have:=HD.out;omega⟩;obtain ⟨ad,Al,cl,ea,hxl,hcl,hCl⟩:=qjr HR1.out (i:Int) (by omega) (by omega);subst ea;replace hxl:=(hX.x.below.cell (World.block_lt_of_cell? w _ hxl)).trans hxl;rw [Int.toNat_natCast] at hxl;obtain ⟨lst,hlst⟩:∃ lst,Yq l1 (i:Int)=lst:=⟨_,rfl⟩;rw [hlst] at hxl hcl hCl
      have hdrop:l1.drop i=lst::l1.drop (i+1):=by
       rw [List.drop_eq_getElem_cons hi,← hlst]
       congr 1
       simp [Yq,List.getD_eq_getElem?_getD,List.getElem?_eq_getElem hi]
      have qtW:rr=((QG.rowf (l0.length:Int) lst (-1) 0).bind fun x=>(QG.rows (l0.length:Int) (l1.drop (i+1))).map (x :: ·)).map (done ++ ·):=by rw [hdr,hdrop];rfl
      have hrep:List.replicate (l1.length-i) (0:Int)=0::List.replicate (l1.length-(i+1)) 0:=by
       rw [show l1.length-i=(l1.length-(i+1))+1 by omega,List.replicate_succ]
      rw [hrep] at hX;have hmxl:lst.length≤9223372036854775807:=hCl.2.1;have HX:=Q0.mk hX;have HCL:=Q0.mk hCl;have HDL:=Q0.mk hdl;have qr9:=Q0.mk qtW;clear hX hCl hdl qtW hdr hdrop hrep hlst hcl HE;obtain ⟨wo,hwo⟩:∃ wo:World,wo=wr:=⟨_,rfl⟩;subst hwo
      go_wp2
      go_loopg [16,60] lst.length (fun d2 v16 v60 wr => ∃ (last:Int) (j:Nat) (acc:Int),v16 = .int .i64 last∧v60 = .int .i64 (j:Int)∧Q0 (j+d2=lst.length)∧Q0 (-1≤last∧last<(l0.length:Int)∨last = -1)∧Q0 (QG.rowf (l0.length:Int) lst (-1) 0=QG.rowf (l0.length:Int) (lst.drop j) last acc)∧Q0 (Bx1 w tb l1.length ct At (done++acc::List.replicate (l1.length-(i+1)) 0) wr))
      case atStart=>exact ⟨-1,0,0,rfl,rfl,⟨by omega⟩,⟨.inr rfl⟩,⟨by simp⟩,HX⟩
      case round =>
       obtain ⟨last,j,acc,rfl,rfl,HD2,HLA,HRO,HX2⟩:=hrel
       have hla : -1≤last∧last≤9223372036854775806:=by rcases HLA.out with h|h<;>omega
       clear HX
       by_cases hj:j<lst.length
       ·
        obtain ⟨d2,rfl⟩:∃ d2,gk=d2+1:=⟨gk-1,by have:=HD2.out;omega⟩;obtain ⟨adl,eal,hxc⟩:=Kd.at_int (Kd.C_below HCL.out HX2.out.x.below) (j:Int) (by omega) (by omega);subst eal;rw [Int.toNat_natCast] at hxc;obtain ⟨cc,hcc⟩:∃ cc,rd lst (j:Int)=cc:=⟨_,rfl⟩
        have qkY:QG.rowf (l0.length:Int) lst (-1) 0=if wi cc (last+1) ((l0.length:Int)-1)=true then QG.rowf (l0.length:Int) (lst.drop (j+1)) cc (Go.bits .or .i64 acc (shl .i64 1 cc)) else none:=by
         rw [HRO.out,List.drop_eq_getElem_cons hj,← hcc]
         have e:rd lst (j:Int)=lst[j]:=by simp [rd,List.getD_eq_getElem?_getD,List.getElem?_eq_getElem hj]
         rw [e];rfl
        rw [hcc] at hxc;clear hcc HRO
        by_cases hw:wi cc (last+1) ((l0.length:Int)-1)=true
        ·
         rw [if_pos hw] at qkY;have qsl:=Q0.mk qkY;clear qkY;obtain ⟨hw1,hw2⟩:=OA.1 hw;obtain ⟨tr,cr,er,_,_,_,_⟩:=Kd.R_form HX2.out.r (by simp;omega)
         injection er with e1 e0 e2
         clear e0;subst e1 e2;have hX3:=HX2.out;clear HX2
         have hel:wr.cell? ⟨tr,i,none⟩=some (.int .i64 acc):=by
          obtain ⟨ad2,ea2,hel⟩:=Kd.at_int (Kd.R_reads' hX3.r).2.2 (i:Int) (by omega) (by have:=HDL.out;simp;omega)
          injection ea2 with ea2
          subst ea2;rw [Int.toNat_natCast,KW] at hel;rw [hel];have:=HDL.out
          simp [rd,List.getD_eq_getElem?_getD,this]
         obtain ⟨gcs,hgcs⟩:=Kd.R_typed hX3.r tr rfl;have hef:wr.frozen? ⟨tr,i,none⟩=false:=Qc hgcs i;have htb:wr.cell? ⟨tb,0,none⟩=some (.slice (some ⟨tr,0,none⟩) l1.length ct):=(Qb hX3.t 0).trans rfl;obtain ⟨sh,hsh⟩:∃ sh,shl .i64 1 cc=sh:=⟨_,rfl⟩;have hr3:=qsl.out;rw [hsh] at hr3;have qA3:=Q0.mk hr3;have hji_:(IntKind.i64.wrap (1*2 ^ min cc.toNat 64))=sh:=hsh;have hjiz:cc≤64→(IntKind.i64.wrap (1*2 ^ cc.toNat))=sh:=qlb hsh
         have hjiu:(IntKind.i64.wrap (2 ^ min cc.toNat 64))=sh:=by have h_:=hji_;rw [Int.one_mul] at h_;exact h_
         have hjiv:cc≤64→(IntKind.i64.wrap (2 ^ cc.toNat))=sh:=fun hle_=>by have h_:=hjiz hle_;rw [Int.one_mul] at h_;exact h_
         obtain ⟨or,hor⟩:∃ o,Go.bits .or .i64 acc sh=o:=⟨_,rfl⟩;have HX3:=Q0.mk hX3;clear hX3 hgcs hsh hr3 qsl
         have qFZ:0≤cc:=by omega
         go_wp2_with (go_at_call 65;refine (Uo _ _ _ _).mono ?_;rintro e w' ⟨rfl,⟨nd,rfl⟩⟩)
         obtain ⟨w9,hw9⟩:∃ w9,wr.drewN nd=w9:=⟨_,rfl⟩
         have qF5:w9.cell? ⟨tr,i,none⟩=some (.int .i64 acc):=by rw [← hw9];exact hel
         have qF4:w9.frozen? ⟨tr,i,none⟩=false:=by rw [← hw9];exact hef
         have qGF:w9.cell? ⟨tb,0,none⟩=some (.slice (some ⟨tr,0,none⟩) l1.length ct):=by rw [← hw9];exact htb
         have HX9:=Q0.mk (show Bx1 w tb l1.length ct (some ⟨tr,0,none⟩) (done++acc::List.replicate (l1.length-(i+1)) 0) w9 by rw [← hw9];exact HX3.out.keep (Q1 (Below.refl _ _) nd));rw [hw9];clear hw9 hel hef htb HX3
         go_still_tail 10,(by kernel_rfl)
         change wpList _ _ _ _ _ (World.drew _)
         go_wp2
         go_roundg d2
         case measure=>omega
         case rel =>
          have hset:(done++acc::List.replicate (l1.length-(i+1)) 0).set i or=done++or::List.replicate (l1.length-(i+1)) 0:=by
           rw [← HDL.out,List.set_append_right _ _ (Nat.le_refl _),Nat.sub_self,List.set_cons_zero]
          have hput:=HX9.out.put i or;rw [hset] at hput;refine ⟨cc,j+1,or,rfl,by simp,⟨by have:=HD2.out;omega⟩,⟨.inl ⟨by omega,by omega⟩⟩,⟨?_⟩,⟨hput.keep (YA (Below.refl _ _))⟩⟩;rw [qA3.out,hor]
        ·
         replace hw:=Bool.eq_false_iff.mpr hw;rw [if_neg (by rw [hw];decide)] at qkY
         have hrn:rr=none:=by rw [qr9.out,qkY];rfl
         have hg:=HG.out;unfold QG.g at hg;rw [HRR.out,hrn] at hg;replace hg:(([],0,0,94):List Int × Int × Int × Int)=(r1,r2,r3,r4):=hg
         injection hg with e1 hg
         injection hg with e2 hg
         injection hg with e3 e4
         subst e1 e2 e3 e4;clear qkY hrn;have hcb:wr.cell? ⟨w.heap.size,0,none⟩=some (.slice none 0 0):=(Qb HX2.out.x.c 0).trans rfl;have hsb:wr.cell? ⟨w.heap.size+1,0,none⟩=some (.int .i64 0):=(Qb HX2.out.x.s 0).trans rfl;have hlb:wr.cell? ⟨w.heap.size+1+1,0,none⟩=some (.int .i64 0):=(Qb HX2.out.x.l 0).trans rfl;have hfc:=Qc HX2.out.x.c 0;have hfs:=Qc HX2.out.x.s 0;have hfl:=Qc HX2.out.x.l 0
         go_wp2_with (go_at_call 65;refine (Uo _ _ _ _).mono ?_;rintro e w' ⟨rfl,⟨nd,rfl⟩⟩)
         have hXf:=(HX2.out.x.keep (Q1 (Below.refl _ _) nd)).again;refine bodyPost_ret (results40 _ _ _ _ _ (.slice none 0 0) 0 0 rfl rfl rfl hXf.c hXf.s hXf.l) rfl ?_
         exact ⟨_,rfl,Kd.V_nil _ _ _ _ _,hXf.below⟩
       ·
        have hjl:j=lst.length:=by have:=HD2.out;omega
        subst hjl;have hr5:=HRO.out;rw [List.drop_length] at hr5;replace hr5:QG.rowf (l0.length:Int) lst (-1) 0=some acc:=hr5
        have hr6:rr=(QG.rows (l0.length:Int) (l1.drop (i+1))).map ((done++[acc]) ++ ·):=by
         rw [qr9.out,hr5]
         cases QG.rows (l0.length:Int) (l1.drop (i+1)) with
         | none=>rfl
         | some z=>simp
        have HR6:=Q0.mk hr6;clear hr5 hr6 HRO
        go_wp2
        go_roundg d
        case measure=>omega
        case rel =>
         refine ⟨i+1,by simp,⟨by have:=HD.out;omega⟩,⟨done++[acc],by have:=HDL.out;simp;omega,HR6.out,?_⟩⟩;have h7:=HX2.out
         rwa [List.append_cons] at h7
     ·
      have hil:i=l1.length:=by have:=HD.out;omega
      subst hil;rw [List.drop_length] at hdr;replace hdr:rr=some (done++[]):=hdr;rw [List.append_nil] at hdr;rw [Nat.sub_self,List.replicate_zero,List.append_nil] at hX;have hg:=HG.out;unfold QG.g at hg;rw [HRR.out,hdr] at hg
      replace hg:(if QG.okc l0 (decide ((l0.length:Int)≤12)&&decide ((l1.length:Int)≤8))=true then
   if wi a2 0 8=true then
    ((QG.tries l0 done (min a2.toNat done.length+1) 0 ⟨[],0,0⟩).ch,(QG.tries l0 done (min a2.toNat done.length+1) 0 ⟨[],0,0⟩).sp,(QG.tries l0 done (min a2.toNat done.length+1) 0 ⟨[],0,0⟩).lo,0)
   else ([],0,0,7)
  else ([],0,0,94))=(r1,r2,r3,r4):=hg
      rw [qlK.out,HOK.out] at hg;have HX:=Q0.mk hX;have HDL:=Q0.mk hdl;clear hX hdl hdr HE
      cases b with
      | false =>
       rw [if_neg (by decide)] at hg
       injection hg with e1 hg
       injection hg with e2 hg
       injection hg with e3 e4
       subst e1 e2 e3 e4;have hcb:wr.cell? ⟨w.heap.size,0,none⟩=some (.slice none 0 0):=(Qb HX.out.x.c 0).trans rfl;have hsb:wr.cell? ⟨w.heap.size+1,0,none⟩=some (.int .i64 0):=(Qb HX.out.x.s 0).trans rfl;have hlb:wr.cell? ⟨w.heap.size+1+1,0,none⟩=some (.int .i64 0):=(Qb HX.out.x.l 0).trans rfl;have hfc:=Qc HX.out.x.c 0;have hfs:=Qc HX.out.x.s 0;have hfl:=Qc HX.out.x.l 0
       go_wp2
       have hXf:=HX.out.x.again;refine bodyPost_ret (results40 _ _ _ _ _ (.slice none 0 0) 0 0 rfl rfl rfl hXf.c hXf.s hXf.l) rfl ?_
       exact ⟨_,rfl,Kd.V_nil _ _ _ _ _,hXf.below⟩
      | true =>
       rw [if_pos rfl] at hg
       by_cases hw8:wi a2 0 8=true
       ·
        rw [if_pos hw8] at hg
        have hn8:done.length≤8:=by
         have h1:=HOK.out;have h1:=qg3 _ _ h1;rw [← qlK.out] at h1;have:=HDL.out
         simp at h1
         omega
        obtain ⟨ha0,ha8⟩:=OA.1 hw8;obtain ⟨stF,hstF⟩:∃ stF,QG.tries l0 done (min a2.toNat done.length+1) 0 ⟨[],0,0⟩=stF:=⟨_,rfl⟩;rw [hstF] at hg
        injection hg with e1 hg
        injection hg with e2 hg
        injection hg with e3 e4
        subst e1 e2 e3 e4;have HST:=Q0.mk hstF;have htb:wr.cell? ⟨tb,0,none⟩=some (.slice At l1.length ct):=(Qb HX.out.t 0).trans rfl;have hmm:=@run_makeMap Try.prog;have qqn:=Try.underlying142;have hltt:=QY HX.out.t;have hw8b:wi a2 0 8=true:=hw8;clear hstF hw8
        go_upto_region 25 with ((go_at_call 65;refine (Uo _ _ _ _).mono ?_;rintro e w' ⟨rfl,⟨nd,rfl⟩⟩))
        obtain ⟨w9,hw9⟩:∃ w9,wr.drewN nd=w9:=⟨_,rfl⟩;have HX9:=Q0.mk (show Bx1 w tb l1.length ct At done w9 by rw [← hw9];exact HX.out.keep (Q1 (Below.refl _ _) nd));rw [hw9];clear hw9 htb HX;have hR:=HX9.out.ready HDL.out HR0.out hc0;obtain ⟨W3,hW3⟩:∃ W3,(((w9.alloc (.map #[] 0)).alloc (.cells #[.slice A0 l0.length c0,.map (some w9.heap.size)] 142)).alloc (.cells #[.func (.func 90) #[] #[.pointer (some ⟨w9.heap.size+1,0,none⟩),.pointer (some ⟨w.heap.size+1,0,none⟩),.pointer (some ⟨w.heap.size+1+1,0,none⟩),.pointer (some ⟨w.heap.size,0,none⟩),.pointer (some ⟨tb,0,none⟩),.pointer (some ⟨w9.heap.size+1+1,0,none⟩)]] 143))=W3:=⟨_,rfl⟩;have hB3:Below w.heap.size w W3:=HX9.out.x.below.trans (by rw [← hW3];exact (Q4 (Q4 (Q4 (Below.refl _ _) _) _) _).mono HX9.out.x.below.size);rw [hW3] at hR;have HR:=Q0.mk hR;have HB3:=Q0.mk hB3;have qCj:W3.cell? ⟨tb,0,none⟩=some (.slice At done.length ct):=(Qb hR.tbx 0).trans rfl;have qD4:=QY HX9.out.t;obtain ⟨mm,hmn⟩:∃ mm:Nat,(if (done.length:Int)<a2 then (done.length:Int) else a2)=(mm:Int):=⟨min a2.toNat done.length,by split<;>omega⟩
        have hmin:min a2.toNat done.length=mm:=by split at hmn<;>omega
        have HMM:=Q0.mk hmin
        have hm8:mm≤8:=by omega
        clear hR hB3 hmin
        go_wp2
        have qh9:=HST.out;rw [HMM.out] at qh9;have qA5:=Q0.mk qh9;clear qh9 qCj hmn hmm hW3
        go_loopg [99] (mm+1) (fun d v99 wr => ∃ (k:Nat),v99 = .int .i64 (k:Int)∧Q0 (k+d=mm+1)∧Q0 (∃ st',BxI w.heap.size (w9.heap.size+1) (w.heap.size+1) (w.heap.size+1+1) w.heap.size tb (w9.heap.size+1+1) w9.heap.size A0 c0 l0 At ct done wr st'∧QG.tries l0 done d k st'=stF)∧Q0 (Below w.heap.size w wr))
        case atStart=>exact ⟨0,rfl,⟨by omega⟩,⟨_,HR.out,qA5.out⟩,HB3⟩
        case round =>
         obtain ⟨k,rfl,HK4,HS4,HB4⟩:=hrel;obtain ⟨st',hI4,hT4⟩:=HS4.out
         by_cases hk:k<mm+1
         ·
          obtain ⟨d,rfl⟩:∃ d,gk=d+1:=⟨gk-1,by have:=HK4.out;omega⟩
          have hki:(k:Int)<(mm:Int)+1:=by omega
          have hfb:wr.cell? ⟨w9.heap.size+1+1,0,none⟩=some (.func (.func 90) #[] #[.pointer (some ⟨w9.heap.size+1,0,none⟩),.pointer (some ⟨w.heap.size+1,0,none⟩),.pointer (some ⟨w.heap.size+1+1,0,none⟩),.pointer (some ⟨w.heap.size,0,none⟩),.pointer (some ⟨tb,0,none⟩),.pointer (some ⟨w9.heap.size+1+1,0,none⟩)]):=(Qb hI4.fbx 0).trans rfl;have hNw:w.heap.size≤wr.heap.size:=HB4.out.size;have hcall:=KU.calls (many:=(k:Int)) hn8 done.length (.slice none 0 0) [] 0 st' wr (.inl ⟨rfl,rfl⟩) (by simp) hI4 hNw (Kd.R_nil _ _ _ _ _) (by decide);have HCALL:=Q0.mk hcall;have HT4:=Q0.mk (show QG.tries l0 done d (k+1) (QG.cz l0 done (k:Int) done.length [] 0 st')=stF from hT4);clear hcall hT4 hI4 HS4
          go_wp2_with ((with_reducible refine Ya (N:=105) rfl ?_);refine qa0 (some 105) rfl rfl Try.func90 ?hnm rfl #[.slice none 0 0,.agg #[.int .i64 0],.int .i64 (k:Int),.pointer (some ⟨w9.heap.size+1,0,none⟩),.pointer (some ⟨w.heap.size+1,0,none⟩),.pointer (some ⟨w.heap.size+1+1,0,none⟩),.pointer (some ⟨w.heap.size,0,none⟩),.pointer (some ⟨tb,0,none⟩),.pointer (some ⟨w9.heap.size+1+1,0,none⟩)] 102 #[] #[.pointer (some ⟨w9.heap.size+1,0,none⟩),.pointer (some ⟨w.heap.size+1,0,none⟩),.pointer (some ⟨w.heap.size+1+1,0,none⟩),.pointer (some ⟨w.heap.size,0,none⟩),.pointer (some ⟨tb,0,none⟩),.pointer (some ⟨w9.heap.size+1+1,0,none⟩)] rfl ?hevC ?hagC ?_;(case hnm=>kernel_rfl);(case hevC=>rfl);(case hagC=>simp only [List.map_toArray,List.map_cons,List.map_nil];rfl);refine HCALL.out.mono ?_;rintro e W' ⟨⟨u,rfl⟩,hIe,hKe,hBe⟩;refine ⟨u,rfl,?_⟩)
          go_roundg d
          case measure=>omega
          case rel=>exact ⟨k+1,by simp,⟨by have:=HK4.out;omega⟩,⟨_,hIe,HT4.out⟩,⟨HB4.out.trans hBe⟩⟩
         ·
          have hki:¬ ((k:Int)<(mm:Int)+1):=by omega
          have hd0:gk=0:=by have:=HK4.out;omega
          subst hd0;replace hT4:st'=stF:=hT4;subst hT4;obtain ⟨vc,hcb,hcr⟩:=hI4.chb;have hc6:wr.cell? ⟨w.heap.size,0,none⟩=some vc:=(Qb hcb 0).trans rfl;have hc7:wr.cell? ⟨w.heap.size+1,0,none⟩=some (.int .i64 st'.sp):=(Qb hI4.spb 0).trans rfl;have hc8:wr.cell? ⟨w.heap.size+1+1,0,none⟩=some (.int .i64 st'.lo):=(Qb hI4.lob 0).trans rfl;have hf6:=Qc hcb 0;have hf7:=Qc hI4.spb 0;have hf8:=Qc hI4.lob 0;obtain ⟨Ac,cc,rfl,hcc,hCc⟩:=Kd.R_reads hcr;have HI4:=Q0.mk hI4;have HCR:=Q0.mk hcr;clear hI4 hcr hcb HS4 hCc
          go_wp2
          go_region
          go_wp2
          obtain ⟨g1,g2,g3⟩:=HI4.out.put (s1:=st'.sp) (s2:=st'.lo) HCR.out;obtain ⟨v7,k1,k2⟩:=g1.chb;have hbd:=(g2.1);have hf1:=(QJ (Qu (Qu HI4.out.lob (p:=⟨w.heap.size,0,none⟩) HI4.out.n4.2.2.2.1 (.slice Ac st'.ch.length cc)) (p:=⟨w.heap.size+1,0,none⟩) (Ne.symm HI4.out.n4.1) (.int .i64 st'.sp)) 0 (.int .i64 st'.lo) rfl)
          have hk6:(((wr.setCell ⟨w.heap.size,0,none⟩ (.slice Ac st'.ch.length cc)).setCell ⟨w.heap.size+1,0,none⟩ (.int .i64 st'.sp)).setCell ⟨w.heap.size+1+1,0,none⟩ (.int .i64 st'.lo)).heap[w.heap.size]? = some (.cells #[.slice Ac st'.ch.length cc] 37 (0,0)):=by
           obtain ⟨v0,q1,_⟩:=HI4.out.chb
           exact Qu (Qu (QJ q1 0 _ rfl) (p:=⟨w.heap.size+1,0,none⟩) (by simp) _) (p:=⟨w.heap.size+1+1,0,none⟩) (by simp;omega) _
          have hRf:Kd.R (Kd.int .i64) 3 (((wr.setCell ⟨w.heap.size,0,none⟩ (.slice Ac st'.ch.length cc)).setCell ⟨w.heap.size+1,0,none⟩ (.int .i64 st'.sp)).setCell ⟨w.heap.size+1+1,0,none⟩ (.int .i64 st'.lo)).drew w.heap.size (fun k_=>w.heap.size≤k_) (.slice Ac st'.ch.length cc) st'.ch :=
           Kd.R_drew (Kd.R_mono (Kd.R_bound (Kd.R_kept HCR.out g2 (fun k hk=>hk))) (fun k hk=>hk.2.1))
          refine bodyPost_ret (results40 _ _ _ _ _ (.slice Ac st'.ch.length cc) st'.sp st'.lo rfl rfl rfl hk6 g1.spb g1.lob) rfl ?_
          exact ⟨_,rfl,Kd.R_V hRf,(HB4.out.trans g3).trans (YA (Below.refl w.heap.size _))⟩
       ·
        replace hw8:=Bool.eq_false_iff.mpr hw8;rw [if_neg (by rw [hw8];decide)] at hg
        injection hg with e1 hg
        injection hg with e2 hg
        injection hg with e3 e4
        subst e1 e2 e3 e4;have hcb:wr.cell? ⟨w.heap.size,0,none⟩=some (.slice none 0 0):=(Qb HX.out.x.c 0).trans rfl;have hsb:wr.cell? ⟨w.heap.size+1,0,none⟩=some (.int .i64 0):=(Qb HX.out.x.s 0).trans rfl;have hlb:wr.cell? ⟨w.heap.size+1+1,0,none⟩=some (.int .i64 0):=(Qb HX.out.x.l 0).trans rfl;have hfc:=Qc HX.out.x.c 0;have hfs:=Qc HX.out.x.s 0;have hfl:=Qc HX.out.x.l 0
        go_wp2_with (go_at_call 65;refine (Uo _ _ _ _).mono ?_;rintro e w' ⟨rfl,⟨nd,rfl⟩⟩)
        have hXf:=(HX.out.x.keep (Q1 (Below.refl _ _) nd)).again;refine bodyPost_ret (results40 _ _ _ _ _ (.slice none 0 0) 0 0 rfl rfl rfl hXf.c hXf.s hXf.l) rfl ?_
        exact ⟨_,rfl,Kd.V_nil _ _ _ _ _,hXf.below⟩
end
end Go.Proofs.Ytmhomdohhihlcaa.P
namespace Go.Proofs.Ytmhomdohhihlcaa.P
open Go.RowKit Go.Shelf Go.Proofs.YtmhomdohhihlcaaW.PrintWords Go.Proofs.YtmhomdohhihlcaaW.PrintLast Go.Proofs.YtmhomdohhihlcaaW.PrintMore
attribute [local go_sem] Oper.semAt_some
set_option maxHeartbeats 4000000 in
set_option maxRecDepth 100000 in
theorem qec (n:Nat) (R:Nat) (rb B:Nat) (w:World) (hR1:1≤R) (hR3:R≤3) (hB:B≤rb) (hr:w.heap[rb]? = some (.cells #[.int .i64 R] 3 (0,0))) :
  qb0 n Try.prog 95 #[.pointer (some ⟨rb,0,none⟩)] B (Wa (R-1) 100 []) w:=by
 intro l J W hW hJ0 hJ hY h0
 have hmix:Try.prog.follows .mixedOrders=true:=by kernel_rfl
 have hrW:W.heap[rb]? = some (.cells #[.int .i64 R] 3 (0,0)):=(hW.block rb (QY hr)).trans hr
 have hrlt:rb<W.heap.size:=QY hrW
 obtain ⟨Wb,hWb⟩:∃ Wb,(W.alloc (.cells #[.func (.yield l) #[] #[]] 147)).alloc (.cells #[.nilFunc] 87)=Wb:=⟨_,rfl⟩
 have hby:Wb.heap[W.heap.size]? = some (.cells #[.func (.yield l) #[] #[]] 147 (0,0)):=by
  rw [← hWb];exact (Below.heap_alloc _ _ _ (by simp)).trans (World.alloc_heap_new W _)
 have hbf:Wb.heap[W.heap.size+1]? = some (.cells #[.nilFunc] 87 (0,0)):=by
  rw [← hWb];have:=World.alloc_heap_new (W.alloc (.cells #[.func (.yield l) #[] #[]] 147)) (.cells #[.nilFunc] 87);rwa [World.size_alloc] at this
 have hbr:Wb.heap[rb]? = some (.cells #[.int .i64 R] 3 (0,0)):=by
  rw [← hWb];exact (Below.heap_alloc _ _ _ (by simp;omega)).trans ((Below.heap_alloc _ _ _ hrlt).trans hrW)
 have hsz:Wb.heap.size=W.heap.size+2:=by rw [← hWb];simp
 have hcf:=(Qb hbf 0).trans (show _=some Value.nilFunc from rfl)
 have hff:=Qc hbf 0
 obtain ⟨Wf,hWf⟩:∃ Wf,Wb.setCell ⟨W.heap.size+1,0,none⟩ (.func (.func 96) #[] #[.pointer (some ⟨rb,0,none⟩),.pointer (some ⟨W.heap.size,0,none⟩),.pointer (some ⟨W.heap.size+1,0,none⟩)])=Wf:=⟨_,rfl⟩
 have hfy:Wf.heap[W.heap.size]? = some (.cells #[.func (.yield l) #[] #[]] 147 (0,0)):=by
  rw [← hWf];exact Qu hby (p:=⟨W.heap.size+1,0,none⟩) (by simp) _
 have qn6:Wf.heap[W.heap.size+1]? = some (.cells #[.func (.func 96) #[] #[.pointer (some ⟨rb,0,none⟩),.pointer (some ⟨W.heap.size,0,none⟩),.pointer (some ⟨W.heap.size+1,0,none⟩)]] 87 (0,0)):=by
  rw [← hWf];exact QJ hbf 0 _ rfl
 have hfr:Wf.heap[rb]? = some (.cells #[.int .i64 R] 3 (0,0)):=by
  rw [← hWf];exact Qu hbr (p:=⟨W.heap.size+1,0,none⟩) (by simp;omega) _
 have hszf:Wf.heap.size=W.heap.size+2:=by rw [← hWf];simpa using hsz
 have hgf:W.grownBy Wf (some (W.heap.size+1)):=by
  rw [← hWf,← hWb]
  exact ⟨rfl,rfl,rfl,by simp;omega,fun k hk _=>by
   refine (Below.heap_setCell _ _ _ k (by simp;omega)).trans ((Below.heap_alloc _ _ _ (by simp;omega)).trans (Below.heap_alloc _ _ _ hk))⟩
 have hJf:J [] Wf:=hJ0 W Wf _ h0 hgf (fun r e=>by cases e;omega)
 have hcell:=(Qb qn6 0).trans (show _=some _ from rfl)
 have hcall:=qck (m:=n-1) (qnC n l R rb W.heap.size (W.heap.size+1) B (Wa (R-1) 100 []) J hJ (fun pre v x W1 hj hp hr=>qcn (hY pre v x W1 hj hp hr)) (R-1) 100 [] (.slice none 0 0) [] Wf (by omega) (by omega) (by simp;omega) hR3 (by omega) (Kd.R_nil _ _ _ _ _)
  ⟨hfr,hfy,qn6,hB,by omega,by omega⟩ hJf (List.prefix_refl _))
 have H1:=Q0.mk hfy
 have H2:=Q0.mk qn6
 have H3:=Q0.mk hfr
 clear hfy qn6 hfr hbr hby hrW hJf hgf
 refine callsIn_of_wp Try.func95 rfl trivial ?_ rfl
 simp only [Try.ntmps95,List.size_toArray,List.length_cons,List.length_nil,Nat.reduceAdd,Nat.reduceSub,Array.replicate_succ,Array.replicate_zero,List.push_toArray,List.append_toArray,List.nil_append,List.cons_append]
 gi_wp2_with (refine ⟨trivial,fun e=>by simp [Fence.wide] at e,hcall.mono ?_⟩;rintro e W' ⟨rfl,hJ',hk'⟩)
 go_end0
 exact ⟨⟨_,rfl⟩,hJ'⟩
end Go.Proofs.Ytmhomdohhihlcaa.P
namespace Go.Proofs.Ytmhomdohhihlcaa.P
open Go.RowKit Go.Proofs.YtmhomdohhihlcaaW.PrintWords Go.Proofs.YtmhomdohhihlcaaW.PrintLast Go.Proofs.YtmhomdohhihlcaaW.PrintMore
section
attribute [local go_sem] Yv Yx YK YL Yn Yo Yw Yy
def Jo.f (OT:Int) (XZ:Int) (a1:Int):Option (Bool):=if 0≤OT then (if OT≤XZ then (some (decide (XZ≤a1))) else (some false)) else (some false)
set_option maxHeartbeats 8000000 in
set_option maxRecDepth 100000 in
theorem Jo.calls (OT:Int) (XZ:Int) (a1:Int) (r:Bool) (w:World) (h:Jo.f OT XZ a1=some r) :
  Calls Try.prog 66 #[.agg #[.int .i64 OT,.int .i64 XZ],.int .i64 a1] w fun e w'=>e = .returned (.bool r)∧Below w.heap.size w w':=by
 have qcp:=Try.underlying25
 have HB:=Q0.mk (Below.refl w.heap.size w)
 have H:(if 0≤OT then (if OT≤XZ then (some (decide (XZ≤a1))) else (some false)) else (some false))=some r:=h
 clear h
 by_cases c3:0≤OT
 ·
  rw [if_pos c3] at H
  have c3b0:decide (0≤OT)=true:=decide_eq_true c3
  clear c3
  by_cases c4:OT≤XZ
  ·
   rw [if_pos c4] at H
   have c4b0:decide (OT≤XZ)=true:=decide_eq_true c4
   clear c4
   obtain rfl:=Option.some.inj H
   go_enter Try.func66,Try.ntmps66
   go_wp2_with (first|((with_reducible refine Ya (N:=2) rfl ?_);refine YD ?hg (N:=2) ?hd (cs:=#[.int .i64 OT,.int .i64 XZ]) (t:=25) ?hr ?_;(case hd=>rfl);(case hg=>rfl);(case hr=>first|(go_simp;done)|(go_simp;rfl));intro UC hg w5 hbox hb;have n0_:=Q0.mk (Qx (by repeat (first|(with_reducible first|exact HB.out|apply Q4|apply Q1|apply Qa)|exact HB.out)) hb);have n1_:=Q0.mk (hbox);have n2_:=Q0.mk ((by rw [hg];exact (Qq (by repeat (first|(with_reducible first|exact HB.out|apply Q4|apply Q1|apply Qa)|exact HB.out))):w.heap.size≤UC));have n3_:=n2_;clear HB;have HB:=n0_;have Uy:=n1_;have qpn:=n2_;have qgb:=n3_;clear n0_ n1_ n2_ n3_ hb hbox hg;have qav:w5.cell? ⟨UC,0,none⟩=some (.int .i64 OT):=(Qb Uy.out 0).trans rfl;have qaw:w5.cell? ⟨UC,1,none⟩=some (.int .i64 XZ):=(Qb Uy.out 1).trans rfl;have qaz:=Qc Uy.out 0;have qaA:=Qc Uy.out 1))
   go_ret
   exact ⟨by first|rfl|(simp [QB,QC]<;>rfl)|(simp [*,QB,QC]<;>rfl),by repeat (first|(with_reducible first|exact HB.out|apply Q4|apply Q1|apply Qa|refine Q5 ?_ qgb.out)|exact HB.out)⟩
  rw [if_neg c4] at H
  have c4b0:decide (OT≤XZ)=false:=decide_eq_false c4
  clear c4
  obtain rfl:=Option.some.inj H
  go_enter Try.func66,Try.ntmps66
  go_wp2_with (first|((with_reducible refine Ya (N:=2) rfl ?_);refine YD ?hg (N:=2) ?hd (cs:=#[.int .i64 OT,.int .i64 XZ]) (t:=25) ?hr ?_;(case hd=>rfl);(case hg=>rfl);(case hr=>first|(go_simp;done)|(go_simp;rfl));intro UC hg w7 hbox hb;have n0_:=Q0.mk (Qx (by repeat (first|(with_reducible first|exact HB.out|apply Q4|apply Q1|apply Qa)|exact HB.out)) hb);have n1_:=Q0.mk (hbox);have n2_:=Q0.mk ((by rw [hg];exact (Qq (by repeat (first|(with_reducible first|exact HB.out|apply Q4|apply Q1|apply Qa)|exact HB.out))):w.heap.size≤UC));have n3_:=n2_;clear HB;have HB:=n0_;have Uy:=n1_;have qpn:=n2_;have qgb:=n3_;clear n0_ n1_ n2_ n3_ hb hbox hg;have qh2:w7.cell? ⟨UC,0,none⟩=some (.int .i64 OT):=(Qb Uy.out 0).trans rfl;have qh3:w7.cell? ⟨UC,1,none⟩=some (.int .i64 XZ):=(Qb Uy.out 1).trans rfl;have qh4:=Qc Uy.out 0;have qh5:=Qc Uy.out 1))
  go_ret
  exact ⟨by first|rfl|(simp [QB,QC]<;>rfl)|(simp [*,QB,QC]<;>rfl),by repeat (first|(with_reducible first|exact HB.out|apply Q4|apply Q1|apply Qa|refine Q5 ?_ qgb.out)|exact HB.out)⟩
 rw [if_neg c3] at H
 have c3b0:decide (0≤OT)=false:=decide_eq_false c3
 clear c3
 obtain rfl:=Option.some.inj H
 go_enter Try.func66,Try.ntmps66
 go_wp2_with (first|((with_reducible refine Ya (N:=2) rfl ?_);refine YD ?hg (N:=2) ?hd (cs:=#[.int .i64 OT,.int .i64 XZ]) (t:=25) ?hr ?_;(case hd=>rfl);(case hg=>rfl);(case hr=>first|(go_simp;done)|(go_simp;rfl));intro UC hg w9 hbox hb;have n0_:=Q0.mk (Qx (by repeat (first|(with_reducible first|exact HB.out|apply Q4|apply Q1|apply Qa)|exact HB.out)) hb);have n1_:=Q0.mk (hbox);have n2_:=Q0.mk ((by rw [hg];exact (Qq (by repeat (first|(with_reducible first|exact HB.out|apply Q4|apply Q1|apply Qa)|exact HB.out))):w.heap.size≤UC));have n3_:=n2_;clear HB;have HB:=n0_;have Uy:=n1_;have qpn:=n2_;have qgb:=n3_;clear n0_ n1_ n2_ n3_ hb hbox hg;have G6:w9.cell? ⟨UC,0,none⟩=some (.int .i64 OT):=(Qb Uy.out 0).trans rfl;have G7:w9.cell? ⟨UC,1,none⟩=some (.int .i64 XZ):=(Qb Uy.out 1).trans rfl;have JM:=Qc Uy.out 0;have JN:=Qc Uy.out 1))
 go_ret
 exact ⟨by first|rfl|(simp [QB,QC]<;>rfl)|(simp [*,QB,QC]<;>rfl),by repeat (first|(with_reducible first|exact HB.out|apply Q4|apply Q1|apply Qa|refine Q5 ?_ qgb.out)|exact HB.out)⟩
end
section
attribute [local go_sem] Yv Yx YK YL Yn Yo Yw Yy
mutual
def QO.j0:Nat→List (S25)→Bool→Option (Bool)
 | 0,_,_=>none
 | k+1,x0,x5=>QO.l0 k x5 x0 (x0.length:Int) 0
def QO.l0:Nat→Bool→List (S25)→Int→Int→Option (Bool)
 | 0,_,_,_,_=>none
 | k+1,x5,x16,x17,x18=>if x18<x17 then (if 0≤x18 then (if x18<(x16.length:Int) then (if x5=true then ((Jo.f ((YX x16 x18).f0) ((YX x16 x18).f1) 100).bind fun t131=>(QO.l0 k t131 x16 x17 (wrap64 (x18+1)))) else (QO.l0 k false x16 x17 (wrap64 (x18+1)))) else (none)) else (none)) else (some x5)
end
def QO.f (k:Nat) (l0:List (S25)) (a1:Int):Option (Bool):=(Qv.f a1 1 6).bind fun qlf=>(if qlf=true then (QO.j0 k l0 ((l0.length:Int)==a1)) else (QO.j0 k l0 false))
theorem QO.mono_l:∀ k,(∀ y0 y1,LeO (QO.j0 k y0 y1) (QO.j0 (k+1) y0 y1))∧(∀ y0 y1 y2 y3,LeO (QO.l0 k y0 y1 y2 y3) (QO.l0 (k+1) y0 y1 y2 y3))
 | 0=>⟨fun _ _ r h=>by simp [QO.j0] at h,fun _ _ _ _ r h=>by simp [QO.l0] at h⟩
 | k+1=>by
  obtain ⟨ih0,ih1⟩:=QO.mono_l k
  refine ⟨?_,?_⟩
  ·
   intro y0 y1
   unfold QO.j0
   repeat' first
   | (with_reducible exact ih0 _ _)
   | (with_reducible exact ih1 _ _ _ _)
   | (with_reducible exact LeO.refl _)
   | (with_reducible exact LeO.none _)
   | (with_reducible refine LeO.ite ?_ ?_)
   | (with_reducible refine LeO.bind ?_ (fun _ => ?_))
   | exact ih0 _ _
   | exact ih1 _ _ _ _
   | exact LeO.none _
   | refine LeO.ite ?_ ?_
   | refine LeO.bind ?_ (fun _ => ?_)
  intro y0 y1 y2 y3
  unfold QO.l0
  repeat' first
  | (with_reducible exact ih0 _ _)
  | (with_reducible exact ih1 _ _ _ _)
  | (with_reducible exact LeO.refl _)
  | (with_reducible exact LeO.none _)
  | (with_reducible refine LeO.ite ?_ ?_)
  | (with_reducible refine LeO.bind ?_ (fun _ => ?_))
  | exact ih0 _ _
  | exact ih1 _ _ _ _
  | exact LeO.none _
  | refine LeO.ite ?_ ?_
  | refine LeO.bind ?_ (fun _ => ?_)
theorem QO.mono:∀ a0 a1 k,LeO (QO.f k a0 a1) (QO.f (k+1) a0 a1):=by
 intro a0 a1 k
 obtain ⟨ih0,ih1⟩:=QO.mono_l k
 unfold QO.f
 repeat' first
   | (with_reducible exact ih0 _ _)
   | (with_reducible exact ih1 _ _ _ _)
   | (with_reducible exact LeO.refl _)
   | (with_reducible exact LeO.none _)
   | (with_reducible refine LeO.ite ?_ ?_)
   | (with_reducible refine LeO.bind ?_ (fun _ => ?_))
   | exact ih0 _ _
   | exact ih1 _ _ _ _
   | exact LeO.none _
   | refine LeO.ite ?_ ?_
   | refine LeO.bind ?_ (fun _ => ?_)
set_option maxHeartbeats 8000000 in
set_option maxRecDepth 100000 in
theorem QO.calls (k:Nat) (A0:Option Addr) (c0:Nat) (l0:List (S25)) (a1:Int) (r:Bool) (w:World) (hr0:Kd.C k25 w A0 l0.length l0) (hc0:l0.length≤c0) (h:QO.f k l0 a1=some r) :
  Calls Try.prog 67 #[.slice A0 l0.length c0,.int .i64 a1] w fun e w'=>e = .returned (.bool r)∧Below w.heap.size w w':=by
 have qcp:=Try.underlying25
 have HR0:=Q0.mk hr0
 have HC0:=Q0.mk hc0
 clear hr0 hc0
 have HB:=Q0.mk (Below.refl w.heap.size w)
 have H:((Qv.f a1 1 6).bind fun qlf=>(if qlf=true then (QO.j0 k l0 ((l0.length:Int)==a1)) else (QO.j0 k l0 false)))=some r:=h
 clear h
 have HC3:=Q0.mk H
 clear H
 go_enter Try.func67,Try.ntmps67
 go_upto_region 1 with (fail)
 go_cut [5] (fun v5 wc => ∃ (kq:Nat) (Y0:Bool),v5 = .bool Y0∧Q0 (QO.j0 kq l0 Y0=some r)∧Q0 (kq≤k)∧Q0 (Below w.heap.size w wc))
 case first =>
  have H:=HC3.out
  clear HC3
  replace H:=Option.bind_eq_some_iff.mp H
  obtain ⟨qlf,A40,H⟩:=H
  replace H:(if qlf=true then (QO.j0 k l0 ((l0.length:Int)==a1)) else (QO.j0 k l0 false))=some r:=H
  have A4:=Q0.mk A40
  clear A40
  by_cases c5:qlf=true
  ·
   subst c5
   have H1:(QO.j0 k l0 ((l0.length:Int)==a1))=some r:=by rw [if_pos rfl] at H;exact H
   clear H
   have H:=H1
   clear H1
   have H':=Q0.mk H
   clear H
   go_wp2_with (first|((with_reducible refine QK (f:=65) rfl ?_);refine YP (some 9) rfl rfl Try.func65 (by kernel_rfl) rfl #[.int .i64 a1,.int .i64 1,.int .i64 6] rfl (by (try simp only [List.map_toArray,List.map_cons,List.map_nil]);first|done|rfl|(simp only [List.length_drop,List.length_take];rfl)) ?_;(with_reducible refine (Qv.calls a1 1 6 true _ A4.out).mono ?_);rintro e w' ⟨rfl,⟨nd,rfl⟩⟩;refine ⟨_,rfl,?_⟩))
   go_meet
   case rel=>exact ⟨_,(((l0.length:Int)==a1)),(by first|rfl|(simp;done)|(simp [*];done)),H',⟨by first|omega|exact Nat.le_refl _⟩,⟨by repeat (first|(with_reducible first|exact HB.out|apply Q4|apply Q1|apply Qa)|exact HB.out)⟩⟩
  replace c5:=Bool.eq_false_iff.mpr c5
  subst c5
  have H1:(QO.j0 k l0 false)=some r:=by rw [if_neg (show ¬ (false=true) by decide)] at H;exact H
  clear H
  have H:=H1
  clear H1
  have H':=Q0.mk H
  clear H
  go_wp2_with (first|((with_reducible refine QK (f:=65) rfl ?_);refine YP (some 9) rfl rfl Try.func65 (by kernel_rfl) rfl #[.int .i64 a1,.int .i64 1,.int .i64 6] rfl (by (try simp only [List.map_toArray,List.map_cons,List.map_nil]);first|done|rfl|(simp only [List.length_drop,List.length_take];rfl)) ?_;(with_reducible refine (Qv.calls a1 1 6 false _ A4.out).mono ?_);rintro e w' ⟨rfl,⟨nd,rfl⟩⟩;refine ⟨_,rfl,?_⟩))
  go_meet
  case rel=>exact ⟨_,(false),(by first|rfl|(simp;done)|(simp [*];done)),H',⟨by first|omega|exact Nat.le_refl _⟩,⟨by repeat (first|(with_reducible first|exact HB.out|apply Q4|apply Q1|apply Qa)|exact HB.out)⟩⟩
 clear HC3
 try clear p2
 try clear c5
 obtain ⟨kq,Y0,rfl,HA,HJ2,HB⟩:=hcut
 cases kq with
 | zero=>exact absurd HA.out (by simp [QO.j0])
 | succ kj2 =>
  have H:=HA.out
  clear HA
  simp only [QO.j0] at H
  have H':=Q0.mk H
  clear H
  go_wp2
  go_loopg [5,18] kj2 (fun kq v5 v18 w' => ∃ (Y0:Bool) (Jj:Int),v5 = .bool Y0∧v18 = .int .i64 Jj∧Q0 (QO.l0 kq Y0 l0 (l0.length:Int) Jj=some r)∧Q0 (kq≤kj2)∧Q0 (Below w.heap.size w w'))
  case atStart=>exact ⟨(Y0),(0),(by first|rfl|(simp;done)|(simp [*];done)),(by first|rfl|(simp;done)|(simp [*];done)),H',⟨Nat.le_refl _⟩,⟨by repeat (first|(with_reducible first|exact HB.out|apply Q4|apply Q1|apply Qa)|exact HB.out)⟩⟩
  clear H'
  try clear p2
  try clear c5
  try clear p2
  obtain ⟨Y0,Jj,rfl,rfl,HA,HK2,HB⟩:=hrel
  cases gk with
  | zero=>exact absurd HA.out (by simp [QO.l0])
  | succ k2 =>
   have H:=HA.out
   clear HA
   simp only [QO.l0] at H
   by_cases c6:Jj<(l0.length:Int)
   ·
    rw [if_pos c6] at H;have c6b0:decide (Jj<(l0.length:Int))=true:=decide_eq_true c6;clear c6
    by_cases c7:0≤Jj
    ·
     rw [if_pos c7] at H;have c7b0:decide (0≤Jj)=true:=decide_eq_true c7;clear c7
     by_cases c8:Jj<(l0.length:Int)
     ·
      rw [if_pos c8] at H;have c8b0:decide (Jj<(l0.length:Int))=true:=decide_eq_true c8;clear c8
      by_cases c9:Y0=true
      ·
       subst c9
       have H1:((Jo.f ((YX l0 Jj).f0) ((YX l0 Jj).f1) 100).bind fun t131=>(QO.l0 k2 t131 l0 (l0.length:Int) (wrap64 (Jj+1))))=some r:=by rw [if_pos rfl] at H;exact H
       clear H;have H:=H1;clear H1;replace H:=Option.bind_eq_some_iff.mp H;obtain ⟨t131,qlx,H⟩:=H;replace H:(QO.l0 k2 t131 l0 (l0.length:Int) (wrap64 (Jj+1)))=some r:=H;have A10:=Q0.mk qlx;clear qlx;have H':=Q0.mk H;clear H;have qie:0≤(Jj:Int):=of_decide_eq_true (by first|(with_reducible assumption)|assumption);have qiv:Jj<(l0.length:Int):=of_decide_eq_true (by first|(with_reducible assumption)|assumption);obtain ⟨qsw,e129,WY,WZ⟩:=WO HR0.out Jj qie qiv;cases e129;replace WY:=(HB.out.cell (World.block_lt_of_cell? w _ WY)).trans WY;replace WZ:=(HB.out.cell (World.block_lt_of_cell? w _ WZ)).trans WZ;replace qie:=eq_true qie;replace qiv:=eq_true qiv
       go_wp2_with (first|((with_reducible refine Ya (N:=7) rfl ?_);(try (refine Jp (by rfl) ?_;dsimp only));refine YD ?hg (N:=7) ?hd (cs:=#[.int .i64 0,.int .i64 0]) (t:=25) ?hr ?_;(case hd=>rfl);(case hg=>rfl);(case hr=>first|(go_simp;done)|(go_simp;rfl));intro qai hg w11 hbox hb;have n0_:=Q0.mk (Qx (by repeat (first|(with_reducible first|exact HB.out|apply Q4|apply Q1|apply Qa)|exact HB.out)) hb);have n1_:=Q0.mk (hbox);have n2_:=Q0.mk ((by rw [hg];exact (Qq (by repeat (first|(with_reducible first|exact HB.out|apply Q4|apply Q1|apply Qa)|exact HB.out))):w.heap.size≤qai));have n3_:=n2_;clear HB;have HB:=n0_;have Xc:=n1_;have qr7:=n2_;have qi9:=n3_;clear n0_ n1_ n2_ n3_ hb hbox hg;have OX:w11.cell? ⟨qai,0,none⟩=some (.int .i64 0):=(Qb Xc.out 0).trans rfl;have OY:w11.cell? ⟨qai,1,none⟩=some (.int .i64 0):=(Qb Xc.out 1).trans rfl;have U7:=Qc Xc.out 0;have U8:=Qc Xc.out 1)|(go_at_call 66;(with_reducible refine (Jo.calls ((YX l0 Jj).f0) ((YX l0 Jj).f1) 100 t131 _ A10.out).mono ?_);rintro e w13 ⟨rfl,hb⟩;have n0_:=Q0.mk (Qp (g:=qai) (o:=.cells #[.int .i64 ((YX l0 Jj).f0),.int .i64 ((YX l0 Jj).f1)] 25 (0,0)) (by (with_reducible repeat (first|refine Q3 ?_ _|refine Q6 ?_|refine Q2 ?_ _));refine QJ (cs:=#[.int .i64 ((YX l0 Jj).f0),.int .i64 0]) ?_ 1 _ rfl;(with_reducible repeat (first|refine Q3 ?_ _|refine Q6 ?_|refine Q2 ?_ _));refine QJ (cs:=#[.int .i64 0,.int .i64 0]) ?_ 0 _ rfl;(with_reducible repeat (first|refine Q3 ?_ _|refine Q6 ?_|refine Q2 ?_ _));exact Xc.out) hb);have n1_:=Q0.mk (Qx (by repeat (first|(with_reducible first|exact HB.out|apply Q4|apply Q1|apply Qa|refine Q5 ?_ qi9.out)|exact HB.out)) hb);clear Xc HB;have Xc:=n0_;have HB:=n1_;clear n0_ n1_;(try clear hb);(try clear hb2);(try clear hk);(try clear hi)))
       go_roundg k2
       case measure=>have:=HJ2.out;have:=HK2.out;omega
       case rel=>exact ⟨(t131),(wrap64 (Jj+1)),(by first|rfl|(simp;done)|(simp [*];done)),(by first|rfl|(simp;done)|(simp [*];done)),H',⟨by have:=HJ2.out;have:=HK2.out;omega⟩,⟨by repeat (first|(with_reducible first|exact HB.out|apply Q4|apply Q1|apply Qa|refine Q5 ?_ qi9.out)|exact HB.out)⟩⟩
      replace c9:=Bool.eq_false_iff.mpr c9;subst c9
      have H1:(QO.l0 k2 false l0 (l0.length:Int) (wrap64 (Jj+1)))=some r:=by rw [if_neg (show ¬ (false=true) by decide)] at H;exact H
      clear H;have H:=H1;clear H1;have H':=Q0.mk H;clear H;have qie:0≤(Jj:Int):=of_decide_eq_true (by first|(with_reducible assumption)|assumption);have qiv:Jj<(l0.length:Int):=of_decide_eq_true (by first|(with_reducible assumption)|assumption);obtain ⟨qsw,e129,WY,WZ⟩:=WO HR0.out Jj qie qiv;cases e129;replace WY:=(HB.out.cell (World.block_lt_of_cell? w _ WY)).trans WY;replace WZ:=(HB.out.cell (World.block_lt_of_cell? w _ WZ)).trans WZ;replace qie:=eq_true qie;replace qiv:=eq_true qiv
      go_wp2_with (first|((with_reducible refine Ya (N:=7) rfl ?_);(try (refine Jp (by rfl) ?_;dsimp only));refine YD ?hg (N:=7) ?hd (cs:=#[.int .i64 0,.int .i64 0]) (t:=25) ?hr ?_;(case hd=>rfl);(case hg=>rfl);(case hr=>first|(go_simp;done)|(go_simp;rfl));intro qai hg w14 hbox hb;have n0_:=Q0.mk (Qx (by repeat (first|(with_reducible first|exact HB.out|apply Q4|apply Q1|apply Qa)|exact HB.out)) hb);have n1_:=Q0.mk (hbox);have n2_:=Q0.mk ((by rw [hg];exact (Qq (by repeat (first|(with_reducible first|exact HB.out|apply Q4|apply Q1|apply Qa)|exact HB.out))):w.heap.size≤qai));have n3_:=n2_;clear HB;have HB:=n0_;have Xc:=n1_;have qr7:=n2_;have qi9:=n3_;clear n0_ n1_ n2_ n3_ hb hbox hg;have OZ:w14.cell? ⟨qai,0,none⟩=some (.int .i64 0):=(Qb Xc.out 0).trans rfl;have U0:w14.cell? ⟨qai,1,none⟩=some (.int .i64 0):=(Qb Xc.out 1).trans rfl;have U9:=Qc Xc.out 0;have Ua:=Qc Xc.out 1))
      go_roundg k2
      case measure=>have:=HJ2.out;have:=HK2.out;omega
      case rel=>exact ⟨(false),(wrap64 (Jj+1)),(by first|rfl|(simp;done)|(simp [*];done)),(by first|rfl|(simp;done)|(simp [*];done)),H',⟨by have:=HJ2.out;have:=HK2.out;omega⟩,⟨by repeat (first|(with_reducible first|exact HB.out|apply Q4|apply Q1|apply Qa|refine Q5 ?_ qi9.out)|exact HB.out)⟩⟩
     rw [if_neg c8] at H
     exact absurd H (by simp)
    rw [if_neg c7] at H
    exact absurd H (by simp)
   rw [if_neg c6] at H
   have c6b0:decide (Jj<(l0.length:Int))=false:=decide_eq_false c6
   clear c6
   obtain rfl:=Option.some.inj H
   go_wp2
   go_ret
   exact ⟨by first|rfl|(simp [QB,QC]<;>rfl)|(simp [*,QB,QC]<;>rfl),by repeat (first|(with_reducible first|exact HB.out|apply Q4|apply Q1|apply Qa)|exact HB.out)⟩
end
section
def Gy.f (a b:Int):Option Int:=some a
def Gi.f (a b:Int):Option Int:=some b
theorem Gy.calls (a b r:Int) (w:World) (h:Gy.f a b=some r) :
  Calls Try.prog 68 #[.agg #[.int .i64 a,.int .i64 b]] w fun e w'=>e = .returned (.int .i64 r)∧Below w.heap.size w w':=by
 unfold Gy.f at h
 injection h with h
 subst h
 have qcp:=Try.underlying25
 go_enter Try.func68,Try.ntmps68
 go_wp2
 go_ret
 exact ⟨rfl,(Below.refl _ w).alloc (Nat.le_refl _) _⟩
theorem Gi.calls (a b r:Int) (w:World) (h:Gi.f a b=some r) :
  Calls Try.prog 69 #[.agg #[.int .i64 a,.int .i64 b]] w fun e w'=>e = .returned (.int .i64 r)∧Below w.heap.size w w':=by
 unfold Gi.f at h
 injection h with h
 subst h
 have qcp:=Try.underlying25
 go_enter Try.func69,Try.ntmps69
 go_wp2
 go_ret
 exact ⟨rfl,(Below.refl _ w).alloc (Nat.le_refl _) _⟩
end
section
attribute [local go_sem] Yv Yx YK YL Yn Yo Yw Yy
def QZ.l0:Nat→List (List (S25))→Int→List Int→List Int→Int→Int→Option (Int)
 | 0,_,_,_,_,_,_=>none
 | k+1,x2,x3,x9,x12,x13,x14=>if x14<x13 then (if 0≤x14 then (if x14<(x12.length:Int) then (if x14<(x2.length:Int) then (if 0≤x3 then (if x3<((JW x2 x14).length:Int) then ((Gy.f ((YX (JW x2 x14) x3).f0) ((YX (JW x2 x14) x3).f1)).bind fun qaM=>(if x9.length<17592186044416 then (QZ.l0 k x2 x3 (x9++[wrap64 ((rd x12 x14)*qaM)]) x12 x13 (wrap64 (x14+1))) else (none))) else (none)) else (none)) else (none)) else (none)) else (none)) else ((Ye.f k x9).bind fun t141=>(some t141))
def QZ.f (k:Nat) (OT:Int) (l1:List Int) (l2:List (List (S25))) (a3:Int):Option (Int):=QZ.l0 k l2 a3 ([]:List Int) l1 (l1.length:Int) 0
theorem QZ.mono_l:∀ k,(∀ y0 y1 y2 y3 y4 y5,LeO (QZ.l0 k y0 y1 y2 y3 y4 y5) (QZ.l0 (k+1) y0 y1 y2 y3 y4 y5))
 | 0=>fun _ _ _ _ _ _ r h=>by simp [QZ.l0] at h
 | k+1=>by
  have ih0:=QZ.mono_l k
  intro y0 y1 y2 y3 y4 y5
  unfold QZ.l0
  repeat' first
  | (with_reducible exact ih0 _ _ _ _ _ _)
  | (with_reducible exact Ye.mono _ _)
  | (with_reducible exact LeO.refl _)
  | (with_reducible exact LeO.none _)
  | (with_reducible refine LeO.ite ?_ ?_)
  | (with_reducible refine LeO.bind ?_ (fun _ => ?_))
  | exact ih0 _ _ _ _ _ _
  | exact Ye.mono _ _
  | exact LeO.none _
  | refine LeO.ite ?_ ?_
  | refine LeO.bind ?_ (fun _ => ?_)
theorem QZ.mono:∀ a0 a1 a2 a3 k,LeO (QZ.f k a0 a1 a2 a3) (QZ.f (k+1) a0 a1 a2 a3):=by
 intro a0 a1 a2 a3 k
 have ih0:=QZ.mono_l k
 unfold QZ.f
 repeat' first
   | (with_reducible exact ih0 _ _ _ _ _ _)
   | (with_reducible exact Ye.mono _ _)
   | (with_reducible exact LeO.refl _)
   | (with_reducible exact LeO.none _)
   | (with_reducible refine LeO.ite ?_ ?_)
   | (with_reducible refine LeO.bind ?_ (fun _ => ?_))
   | exact ih0 _ _ _ _ _ _
   | exact Ye.mono _ _
   | exact LeO.none _
   | refine LeO.ite ?_ ?_
   | refine LeO.bind ?_ (fun _ => ?_)
def QZ.T5:Bool × List (List Nat × List Nat):=(true,[([],[]),([],[]),([],[]),([2],[2]),([],[]),([],[]),([4,5],[4,5]),([6],[6]),([],[]),([7,8],[7,8]),([9],[9]),([3,10],[3,10]),([1,11],[1,11]),([12],[12]),([0,13,11],[0,13]),([14,14,0,1,2,3,4,5,6,7,8,9,10,11,12,13,14],[0,14])])
def QZ.B5:List Nat:=[0,0,0,4,0,0,48,112,0,496,1008,2044,4094,8190,16383,32767]
theorem QZ.tab5:rtab .any (qdQ Try.f71 5)=QZ.T5:=by kernel_rfl
theorem QZ.bits5:Od QZ.T5.2 QZ.B5=true:=by kernel_rfl
set_option maxHeartbeats 8000000 in
set_option maxRecDepth 100000 in
theorem QZ.calls (k:Nat) (OT:Int) (A1:Option Addr) (c1:Nat) (l1:List Int) (A2:Option Addr) (c2:Nat) (l2:List (List (S25))) (a3:Int) (r:Int) (w:World) (hr1:Kd.C (Kd.int .i64) w A1 l1.length l1) (hc1:l1.length≤c1) (hr2:Kd.C (Kd.slice 25 k25) w A2 l2.length l2) (hc2:l2.length≤c2) (h:QZ.f k OT l1 l2 a3=some r) :
  Calls Try.prog 71 #[.agg #[.func (.func 68) #[] #[]],.slice A1 l1.length c1,.slice A2 l2.length c2,.int .i64 a3] w fun e w'=>e = .returned (.int .i64 r)∧Below w.heap.size w w':=by
 have qu3:=Try.underlying104
 have qcp:=Try.underlying25
 have HR1:=Q0.mk hr1
 have HC1:=Q0.mk hc1
 clear hr1 hc1
 have HR2:=Q0.mk hr2
 have HC2:=Q0.mk hc2
 clear hr2 hc2
 have HB:=Q0.mk (Below.refl w.heap.size w)
 have H:(QZ.l0 k l2 a3 ([]:List Int) l1 (l1.length:Int) 0)=some r:=h
 clear h
 have H':=Q0.mk H
 clear H
 go_enter Try.func71,Try.ntmps71
 go_wp2_with (first|((with_reducible refine Ya (N:=4) rfl ?_);refine YD ?hg (N:=4) ?hd (cs:=#[.func (.func 68) #[] #[]]) (t:=104) ?hr ?_;(case hd=>rfl);(case hg=>rfl);(case hr=>first|(go_simp;done)|(go_simp;rfl));intro WG hg w5 hbox hb;have n0_:=Q0.mk (Qx (by repeat (first|(with_reducible first|exact HB.out|apply Q4|apply Q1|apply Qa)|exact HB.out)) hb);have n1_:=Q0.mk (hbox);have n2_:=Q0.mk ((by rw [hg];exact (Qq (by repeat (first|(with_reducible first|exact HB.out|apply Q4|apply Q1|apply Qa)|exact HB.out))):w.heap.size≤WG));have n3_:=n2_;clear HB;have HB:=n0_;have Jy:=n1_;have qr8:=n2_;have Wv:=n3_;clear n0_ n1_ n2_ n3_ hb hbox hg))
 go_loopg [9,14] k (fun kq v9 v14 w' => ∃ (Ws:List Int) (Z8:Int),v14 = .int .i64 Z8∧Q0 (QZ.l0 kq l2 a3 Ws l1 (l1.length:Int) Z8=some r)∧Q0 (kq≤k)∧Q0 (Kd.R (Kd.int .i64) 3 w' w.heap.size (fun _=>True) v9 Ws)∧Q0 (w'.heap[WG]? = some (.cells #[.func (.func 68) #[] #[]] 104 (0,0)))∧Q0 (Below w.heap.size w w'))
 case atStart=>exact ⟨(([]:List Int)),(0),(by first|rfl|(simp;done)|(simp [*];done)),H',⟨Nat.le_refl _⟩,⟨by first|exact Kd.R_nil _ _ _ _ _|exact Kd.N_nil _ _ _ _ _|exact Kd.V_nil _ _ _ _ _|exact Kd.Q_nil _ _ _ _ _|exact Kd.S_nil _ _ _ _ _⟩,⟨by (with_reducible repeat (first|refine Q3 ?_ _|refine Q6 ?_|refine Q2 ?_ _));exact Jy.out⟩,⟨by repeat (first|(with_reducible first|exact HB.out|apply Q4|apply Q1|apply Qa|refine Q5 ?_ Wv.out)|exact HB.out)⟩⟩
 clear H'
 try clear c1
 try clear c2
 try clear p2
 obtain ⟨Ws,Z8,rfl,HA,HK1,HO_9,Jy,HB⟩:=hrel
 cases gk with
 | zero=>exact absurd HA.out (by simp [QZ.l0])
 | succ k1 =>
  have H:=HA.out
  clear HA
  simp only [QZ.l0] at H
  by_cases c6:Z8<(l1.length:Int)
  ·
   rw [if_pos c6] at H
   have c6b0:decide (Z8<(l1.length:Int))=true:=decide_eq_true c6
   clear c6
   by_cases c7:0≤Z8
   ·
    rw [if_pos c7] at H;have c7b0:decide (0≤Z8)=true:=decide_eq_true c7;clear c7
    by_cases c8:Z8<(l1.length:Int)
    ·
     rw [if_pos c8] at H;have c8b0:decide (Z8<(l1.length:Int))=true:=decide_eq_true c8;clear c8
     by_cases c9:Z8<(l2.length:Int)
     ·
      rw [if_pos c9] at H;have c9b0:decide (Z8<(l2.length:Int))=true:=decide_eq_true c9;clear c9
      by_cases c10:0≤a3
      ·
       rw [if_pos c10] at H;have c10b0:decide (0≤a3)=true:=decide_eq_true c10;clear c10
       by_cases c11:a3<((JW l2 Z8).length:Int)
       ·
        rw [if_pos c11] at H;have c11b0:decide (a3<((JW l2 Z8).length:Int))=true:=decide_eq_true c11;clear c11;replace H:=Option.bind_eq_some_iff.mp H;obtain ⟨qaM,qdu,H⟩:=H;replace H:(if Ws.length<17592186044416 then (QZ.l0 k1 l2 a3 (Ws++[wrap64 ((rd l1 Z8)*qaM)]) l1 (l1.length:Int) (wrap64 (Z8+1))) else (none))=some r:=H;have A12:=Q0.mk qdu;clear qdu
        by_cases c13:Ws.length<17592186044416
        ·
         rw [if_pos c13] at H;have qlM:=Q0.mk c13;clear c13;obtain ⟨qng,Xp⟩:∃ y_:List Int,y_=(Ws++[wrap64 ((rd l1 Z8)*qaM)]):=⟨_,rfl⟩
         replace H:(QZ.l0 k1 l2 a3 qng l1 (l1.length:Int) (wrap64 (Z8+1)))=some r:=by first|(rw [Xp];with_reducible exact H)|(have H2_:=(Option.bind_some _ _).symm.trans H;rw [Xp];with_reducible exact H2_)|(have H2_:=(Option.bind_some _ _).symm.trans H;with_reducible exact H2_)|with_reducible exact H|(rw [Xp];exact H)|exact H
         have qlO:=Q0.mk Xp;clear Xp;have H':=Q0.mk H;clear H;have qif:0≤(Z8:Int):=of_decide_eq_true (by first|(with_reducible assumption)|assumption);have qiw:Z8<(l1.length:Int):=of_decide_eq_true (by first|(with_reducible assumption)|assumption);obtain ⟨qsx,qqR,X0⟩:=Kd.at_int HR1.out Z8 qif qiw;cases qqR;replace X0:=(HB.out.cell (World.block_lt_of_cell? w _ X0)).trans X0;replace qif:=eq_true qif;replace qiw:=eq_true qiw
         try go_wp2
         have n0_:=Q0.mk (Kd.R_drew HO_9.out);have n1_:=Q0.mk (Q6 Jy.out);have n2_:=Q0.mk (Qa HB.out);clear HO_9 Jy HB;have HO_9:=n0_;have Jy:=n1_;have HB:=n2_;clear n0_ n1_ n2_;have qig:0≤(Z8:Int):=of_decide_eq_true (by first|(with_reducible assumption)|assumption);have qix:Z8<(l2.length:Int):=of_decide_eq_true (by first|(with_reducible assumption)|assumption);obtain ⟨qlT,qqu,qhR,qqS,O5,qbz,qbv⟩:=ql2 HR2.out Z8 qig qix;have JO:=O5;cases qqS;replace O5:=(HB.out.cell (World.block_lt_of_cell? w _ O5)).trans O5;have qaU:=Q0.mk qbv;have qnp:=Q0.mk qbz;clear qbv qbz;replace qig:=eq_true qig;replace qix:=eq_true qix;have qih:0≤(a3:Int):=of_decide_eq_true (by first|(with_reducible assumption)|assumption);have qiy:a3<((JW l2 Z8).length:Int):=of_decide_eq_true (by first|(with_reducible assumption)|assumption);obtain ⟨qaV,qqT,O6,O7⟩:=WO qaU.out a3 qih qiy;have JQ:=O7;have JP:=O6;cases qqT;replace O6:=(HB.out.cell (World.block_lt_of_cell? w _ O6)).trans O6;replace O7:=(HB.out.cell (World.block_lt_of_cell? w _ O7)).trans O7;replace qih:=eq_true qih;replace qiy:=eq_true qiy;refine Km (n:=16) (S:=fun w'=>w'.cell? ⟨WG,0,none⟩=some (.func (.func 68) #[] #[])∧w'.cell? (qlT.add (Z8).toNat)=some (.slice (some qaV) (JW l2 Z8).length qhR)∧w'.cell? (qaV.add ((a3).toNat*2))=some (.int .i64 ((YX (JW l2 Z8) a3).f0))∧w'.cell? ⟨(qaV.add ((a3).toNat*2)).block,(qaV.add ((a3).toNat*2)).off+1,none⟩=some (.int .i64 ((YX (JW l2 Z8) a3).f1))) (ds:=[]) (Qg 16 0) (by kernel_rfl) rfl rfl ⟨(Qb Jy.out 0).trans rfl,((HB.out.cell (World.block_lt_of_cell? w _ JO)).trans JO),((HB.out.cell (World.block_lt_of_cell? w _ JP)).trans JP),((HB.out.cell (World.block_lt_of_cell? w _ JQ)).trans JQ)⟩ (fun hHeld => ?_);refine Jx QZ.tab5 QZ.bits5 (fun HT_ HW_ => ?_)
         generalize wr.drew=w14 at HO_9 Jy HB qaU O5 O6 O7 hHeld ⊢
         refine Qh 0 (some 19) (Qg 16 1) rfl rfl HT_.out (by kernel_rfl) (fun _ _ _ h=>h) ⟨.inl ⟨by rfl,fun w'=>by go_simp;with_reducible rfl⟩,by simp only [Qe,Q7,Qd,Q9,Q8,Qj,Qk];rfl,?_⟩;refine Qh 1 (some 20) (Qg 16 3) rfl rfl HT_.out (by kernel_rfl) (fun _ _ _ h=>h) ⟨.inl ⟨by rfl,fun w'=>by go_simp;with_reducible rfl⟩,by simp only [Qe,Q7,Qd,Q9,Q8,Qj,Qk];rfl,?_⟩;refine Qh 2 (some 21) (Qg 16 7) rfl rfl HT_.out (by kernel_rfl) (fun _ _ _ h=>h) ⟨.inl ⟨by rfl,fun w'=>by go_simp;with_reducible rfl⟩,by simp only [Qe,Q7,Qd,Q9,Q8,Qj,Qk];rfl,?_⟩;refine Qh 4 (some 23) (Qg 16 23) rfl rfl HT_.out (by kernel_rfl) (fun _ _ _ h=>h) ⟨.inl ⟨by rfl,fun w'=>by go_simp;with_reducible rfl⟩,by simp only [Qe,Q7,Qd,Q9,Q8,Qj,Qk];rfl,?_⟩;refine Qh 5 (some 24) (Qg 16 55) rfl rfl HT_.out (by kernel_rfl) (fun _ _ _ h=>h) ⟨.inl ⟨by rfl,fun w'=>by go_simp;with_reducible rfl⟩,by simp only [Qe,Q7,Qd,Q9,Q8,Qj,Qk];rfl,?_⟩;refine Qh 6 (some 25) (Qg 16 119) rfl rfl HT_.out (by kernel_rfl) (fun _ _ _ h=>h) ⟨.inl ⟨by rfl,fun w'=>by go_simp;with_reducible rfl⟩,by simp only [Qe,Q7,Qd,Q9,Q8,Qj,Qk];rfl,?_⟩;refine Qh 8 (some 27) (Qg 16 375) rfl rfl HT_.out (by kernel_rfl) (fun _ _ _ h=>h) ⟨.inl ⟨by rfl,fun w'=>by go_simp;with_reducible rfl⟩,by simp only [Qe,Q7,Qd,Q9,Q8,Qj,Qk];rfl,?_⟩;refine Y6 3 (some 22) (Qg 16 383) rfl rfl (Y4 HT_.out HW_.out (by kernel_rfl)) (fun _ _ _ h=>h) hHeld ⟨.inl ⟨by rfl,by rintro w' ⟨s0,s1,s2,s3⟩;go_simp;with_reducible rfl⟩,by simp only [Qe,Q7,Qd,Q9,Q8,Qj,Qk];rfl,?_⟩;refine Y6 7 (some 26) (Qg 16 511) rfl rfl (Y4 HT_.out HW_.out (by kernel_rfl)) (fun _ _ _ h=>h) hHeld ⟨.inl ⟨by rfl,by rintro w' ⟨s0,s1,s2,s3⟩;go_simp;with_reducible rfl⟩,by simp only [Qe,Q7,Qd,Q9,Q8,Qj,Qk];rfl,?_⟩;refine Qh 9 (some 28) (Qg 16 1023) rfl rfl HT_.out (by kernel_rfl) (fun _ _ _ h=>h) ⟨.inl ⟨by rfl,fun w'=>by go_simp;with_reducible rfl⟩,by simp only [Qe,Q7,Qd,Q9,Q8,Qj,Qk];rfl,?_⟩;refine Y6 10 (some 29) (Qg 16 2047) rfl rfl (Y4 HT_.out HW_.out (by kernel_rfl)) (fun _ _ _ h=>h) hHeld ⟨.inl ⟨by rfl,by rintro w' ⟨s0,s1,s2,s3⟩;go_simp;with_reducible rfl⟩,by simp only [Qe,Q7,Qd,Q9,Q8,Qj,Qk];rfl,?_⟩;refine one_ (i:=11) (N:=some 30) (Qg 16 4095) rfl rfl (Kt HT_.out (by kernel_rfl)) (by decide) (fun K hK => ?_);refine qeY Try.func68 (by kernel_rfl) rfl #[.agg #[.int .i64 ((YX (JW l2 Z8) a3).f0),.int .i64 ((YX (JW l2 Z8) a3).f1)]] 22 (by rfl) rfl rfl rfl (by (try simp only [List.map_toArray,List.map_cons,List.map_nil]);first|done|rfl|(simp only [List.length_drop,List.length_take];rfl)) ?_
         with_reducible refine (Gy.calls ((YX (JW l2 Z8) a3).f0) ((YX (JW l2 Z8) a3).f1) qaM _ A12.out).mono ?_
         rintro e w15 ⟨rfl,hb⟩;refine ⟨_,rfl,?_⟩;have n0_:=Q0.mk (Kd.R_below (by (with_reducible repeat (first|apply Kd.R_alloc|apply Kd.R_drewN|apply Kd.R_drew));exact HO_9.out) hb);have n1_:=Q0.mk (Qp (g:=WG) (o:=.cells #[.func (.func 68) #[] #[]] 104 (0,0)) (by (with_reducible repeat (first|refine Q3 ?_ _|refine Q6 ?_|refine Q2 ?_ _));exact Jy.out) hb);have n2_:=Q0.mk (Qx (by repeat (first|(with_reducible first|exact HB.out|apply Q4|apply Q1|apply Qa|refine Q5 ?_ Wv.out)|exact HB.out)) hb);clear HO_9 Jy HB;have HO_9:=n0_;have Jy:=n1_;have HB:=n2_;clear n0_ n1_ n2_
         (try clear hb)
         (try clear hb2)
         (try clear hk)
         (try clear hi)
         refine hK.out _ _ ⟨(Qb Jy.out 0).trans rfl,((HB.out.cell (World.block_lt_of_cell? w _ JO)).trans JO),((HB.out.cell (World.block_lt_of_cell? w _ JP)).trans JP),((HB.out.cell (World.block_lt_of_cell? w _ JQ)).trans JQ)⟩ (fun hHeld => ?_);clear hK K;refine Ka (a':=?_) ?_ ?_;rotate_left
         ·
          show Act.put _ (some 30) _=_
          simp only [Qe,Q7,Qd,Q9,Q8,Qj,Qk];rfl
         refine Qh 12 (some 31) (Qg 16 8191) rfl rfl HT_.out (by kernel_rfl) (fun _ _ _ h=>h) ⟨.inl ⟨by rfl,fun w'=>by go_simp;with_reducible rfl⟩,by simp only [Qe,Q7,Qd,Q9,Q8,Qj,Qk];rfl,?_⟩;refine one_ (i:=13) (N:=some 32) (Qg 16 16383) rfl rfl (Kt HT_.out (by kernel_rfl)) (by decide) (fun K hK => ?_);refine qiW (w1:=?_) (v:=?_) (by rfl) rfl ?_ ?_
         rotate_left 2
         ·
          go_simp
          constructor
          · rfl
          rfl
         refine hK.out _ _ ⟨(Qb (Q2 Jy.out _) 0).trans rfl,(World.cell?_alloc_lt _ _ _ (World.block_lt_of_cell? _ _ (((HB.out.cell (World.block_lt_of_cell? w _ JO)).trans JO)))).trans (((HB.out.cell (World.block_lt_of_cell? w _ JO)).trans JO)),(World.cell?_alloc_lt _ _ _ (World.block_lt_of_cell? _ _ (((HB.out.cell (World.block_lt_of_cell? w _ JP)).trans JP)))).trans (((HB.out.cell (World.block_lt_of_cell? w _ JP)).trans JP)),(World.cell?_alloc_lt _ _ _ (World.block_lt_of_cell? _ _ (((HB.out.cell (World.block_lt_of_cell? w _ JQ)).trans JQ)))).trans (((HB.out.cell (World.block_lt_of_cell? w _ JQ)).trans JQ))⟩ (fun hHeld => ?_);clear hK K;refine Ka (a':=?_) ?_ ?_;rotate_left
         ·
          show Act.put _ (some 32) _=_
          simp only [Qe,Q7,Qd,Q9,Q8,Qj,Qk];rfl
         refine one_ (i:=14) (N:=some 33) (Qg 16 32767) rfl rfl (Kt HT_.out (by kernel_rfl)) (by decide) (fun K hK => ?_);refine Kd.R_append_step (Kd.int .i64) (w0:=w) w.heap.size (by rfl) (.tmp 19) (.tmp 32) 37 3 (.int .i64 0) 8 rfl Try.underlying37 qaj rfl (by decide) (by omega) u9 Ws (wrap64 ((rd l1 Z8)*qaM)) [.int .i64 (wrap64 ((rd l1 Z8)*qaM))] (fun _=>True) (fun _=>False) rfl rfl ?aP (fun _ hk=>hk.elim) ?aF ?aO ?aB ?aS ?aL ?_
         (case aP=>exact rfl)
         (case aB=>exact (by repeat (first|(with_reducible first|exact HB.out|apply Q4|apply Q1|apply Qa|refine Q5 ?_ Wv.out)|exact HB.out)))
         (case aF=>exact (fun _ _=>trivial))
         (case aO=>exact (by (with_reducible repeat (first|apply Kd.R_alloc|apply Kd.R_drewN|apply Kd.R_drew));exact HO_9.out))
         (case aS=>exact (Qq (by repeat (first|(with_reducible first|exact HB.out|apply Q4|apply Q1|apply Qa|refine Q5 ?_ Wv.out)|exact HB.out))))
         (case aL=>have:=qlM.out;omega)
         intro v139 w16 ho hb hg hat;rw [← qlO.out] at ho;have n0_:=Q0.mk (Jv (g:=WG) (o:=.cells #[.func (.func 68) #[] #[]] 104 (0,0)) (by (with_reducible repeat (first|refine Q3 ?_ _|refine Q6 ?_|refine Q2 ?_ _));exact Jy.out) hg (Kd.R_ne HO_9.out Jy.out (by decide)));have n1_:=Q0.mk (hb);have n2_:=Q0.mk (ho);clear Jy HB HO_9;have Jy:=n0_;have HB:=n1_;have qlJ:=n2_;clear n0_ n1_ n2_ ho hb hg hat;refine hK.out _ _ ⟨(Qb Jy.out 0).trans rfl,((HB.out.cell (World.block_lt_of_cell? w _ JO)).trans JO),((HB.out.cell (World.block_lt_of_cell? w _ JP)).trans JP),((HB.out.cell (World.block_lt_of_cell? w _ JQ)).trans JQ)⟩ (fun hHeld => ?_);clear hK K;refine Ka (a':=?_) ?_ ?_;rotate_left
         ·
          show Act.put _ (some 33) _=_
          simp only [Qe,Q7,Qd,Q9,Q8,Qj,Qk];rfl
         refine Qh 15 (some 9) (Qg 16 65535) rfl rfl HT_.out (by kernel_rfl) (fun _ _ _ h=>h) ⟨.inl ⟨by rfl,fun w'=>by go_simp;with_reducible rfl⟩,by simp only [Qe,Q7,Qd,Q9,Q8,Qj,Qk];rfl,?_⟩;refine OQ (Gp HT_.out (by kernel_rfl)) ?_
         try go_wp2
         go_roundg k1
         case measure=>have:=HK1.out;omega
         case rel=>exact ⟨(qng),(wrap64 (Z8+1)),(by first|rfl|(simp;done)|(simp [*];done)),H',⟨by have:=HK1.out;omega⟩,⟨by (with_reducible repeat (first|apply Kd.R_alloc|apply Kd.R_drewN|apply Kd.R_drew));exact qlJ.out⟩,⟨by (with_reducible repeat (first|refine Q3 ?_ _|refine Q6 ?_|refine Q2 ?_ _));exact Jy.out⟩,⟨by repeat (first|(with_reducible first|exact HB.out|apply Q4|apply Q1|apply Qa|refine Q5 ?_ Wv.out)|exact HB.out)⟩⟩
        rw [if_neg c13] at H
        exact absurd H (by simp)
       rw [if_neg c11] at H
       exact absurd H (by simp)
      rw [if_neg c10] at H
      exact absurd H (by simp)
     rw [if_neg c9] at H
     exact absurd H (by simp)
    rw [if_neg c8] at H
    exact absurd H (by simp)
   rw [if_neg c7] at H
   exact absurd H (by simp)
  rw [if_neg c6] at H
  have c6b0:decide (Z8<(l1.length:Int))=false:=decide_eq_false c6
  clear c6
  replace H:=Option.bind_eq_some_iff.mp H
  obtain ⟨t141,qlz,H⟩:=H
  replace H:(some t141)=some r:=H
  have A17:=Q0.mk qlz
  clear qlz
  obtain rfl:=Option.some.inj H
  obtain ⟨qqv,qqP,qq3⟩:=Kd.R_slice HO_9.out
  subst qq3
  go_wp2_with (first|((with_reducible refine QK (f:=97) rfl ?_);refine YP (some 36) rfl rfl Try.func97 (by kernel_rfl) rfl #[.slice qqv Ws.length qqP] rfl (by (try simp only [List.map_toArray,List.map_cons,List.map_nil]);first|done|rfl|(simp only [List.length_drop,List.length_take];rfl)) ?_;(with_reducible refine (Ye.calls k1 _ _ Ws t141 _ ?side1 ?side2 A17.out).mono ?_);(case side1=>repeat (first|exact (Kd.R_reads' HO_9.out).2.2|(with_reducible refine Kd.C_alloc ?_ _)|(with_reducible refine Kd.C_drewN ?_ _)|(with_reducible refine Kd.C_drew ?_)));(case side2=>exact (Kd.R_reads' HO_9.out).2.1);rintro e w' ⟨rfl,⟨nd,rfl⟩⟩;refine ⟨_,rfl,?_⟩))
  go_ret
  exact ⟨by first|rfl|(simp [QB,QC]<;>rfl)|(simp [*,QB,QC]<;>rfl),by repeat (first|(with_reducible first|exact HB.out|apply Q4|apply Q1|apply Qa|refine Q5 ?_ Wv.out)|exact HB.out)⟩
end
end Go.Proofs.Ytmhomdohhihlcaa.P
