/- What the statement StockKept leans on, part 3 of 6: contracts of the program's functions; conditions: none. -/
import Derived.Maps.OwnSet
import Derived.DeepKeys4
import Derived.Deep.LoopGhost
import Derived.RangeFuncRecord
import Derived.Test.YtmhomdohhihlcaaStockKeptx0
import Derived.Test.YtmhomdohhihlcaaStockKeptx1
set_option linter.unusedVariables false
set_option linter.unusedSimpArgs false
set_option linter.constructorNameAsVariable false
set_option linter.unusedSectionVars false
namespace Go.Proofs.Ytmhomdohhihlcaa.P
open Go.RowKit Go.Proofs.YtmhomdohhihlcaaW.PrintWords Go.Proofs.YtmhomdohhihlcaaW.PrintLast Go.Proofs.YtmhomdohhihlcaaW.PrintMore
section
attribute [local go_sem] Ys Yu YG YH Yj Yk Yt Yv
mutual
def Qd.j0:Nat→Bool→List (S39)→List Int→List (List (List Int))→Option (Bool)
 | 0,_,_,_,_=>none
 | k+1,x3,Jc,Ga,J0=>Qd.l0 k x3 0 Jc Ga J0
def Qd.l0:Nat→Bool→Int→List (S39)→List Int→List (List (List Int))→Option (Bool)
 | 0,_,_,_,_,_=>none
 | k+1,x3,x4,Jc,Ga,J0=>if x3=true then (Qd.j2 k x3 x4 (decide (x4<(Jc.length:Int))) Jc Ga J0) else (Qd.j2 k x3 x4 false Jc Ga J0)
def Qd.j2:Nat→Bool→Int→Bool→List (S39)→List Int→List (List (List Int))→Option (Bool)
 | 0,_,_,_,_,_,_=>none
 | k+1,x3,x4,x38,Jc,Ga,J0=>if x38=true then (if 0≤x4 then (if x4<(Jc.length:Int) then ((Qo.f k ((Qc Jc x4).f0) ((Qc Jc x4).f1) ((Qc Jc x4).f2) ((Qc Jc x4).f3) ((Qc Jc x4).f4)).bind fun qiZ=>(if qiZ=true then (if x4<(Ga.length:Int) then ((Qr.f (rd Ga x4) 0 100).bind fun qeI=>(Qd.l0 k qeI (wrap64 (x4+1)) Jc Ga J0)) else (none)) else (Qd.l0 k false (wrap64 (x4+1)) Jc Ga J0))) else (none)) else (none)) else (Qd.l1 k x3 0 Jc Ga J0)
def Qd.l1:Nat→Bool→Int→List (S39)→List Int→List (List (List Int))→Option (Bool)
 | 0,_,_,_,_,_=>none
 | k+1,x3,x5,Jc,Ga,J0=>if x3=true then (Qd.j4 k x3 x5 (decide (x5<(J0.length:Int))) Jc Ga J0) else (Qd.j4 k x3 x5 false Jc Ga J0)
def Qd.j4:Nat→Bool→Int→Bool→List (S39)→List Int→List (List (List Int))→Option (Bool)
 | 0,_,_,_,_,_,_=>none
 | k+1,x3,x5,x62,Jc,Ga,J0=>if x62=true then (if 0≤x5 then (if x5<(J0.length:Int) then (Qd.l2 k (((Qq J0 x5).length:Int)==(Jc.length:Int)) x5 0 Jc Ga J0) else (none)) else (none)) else (some x3)
def Qd.l2:Nat→Bool→Int→Int→List (S39)→List Int→List (List (List Int))→Option (Bool)
 | 0,_,_,_,_,_,_=>none
 | k+1,x3,x5,x6,Jc,Ga,J0=>if x3=true then (if x6<(Jc.length:Int) then (if 0≤x5 then (if x5<(J0.length:Int) then (if 0≤x6 then (if x6<((Qq J0 x5).length:Int) then ((Qr.f ((QM (Qq J0 x5) x6).length:Int) 1 10).bind fun qnj=>(if qnj=true then (if 0<(J0.length:Int) then (if 0<((Qq J0 0).length:Int) then (Qd.l2 k (((QM (Qq J0 x5) x6).length:Int)==((QM (Qq J0 0) 0).length:Int)) x5 (wrap64 (x6+1)) Jc Ga J0) else (none)) else (none)) else (Qd.l2 k false x5 (wrap64 (x6+1)) Jc Ga J0))) else (none)) else (none)) else (none)) else (none)) else (Qd.l1 k x3 (wrap64 (x5+1)) Jc Ga J0)) else (Qd.l1 k x3 (wrap64 (x5+1)) Jc Ga J0)
end
def Qd.f (k:Nat) (Qa:List (S39)) (Qe:List Int) (Qb:List (List (List Int))):Option (Bool):=(Qj.f k Qa Qe Qb).bind fun qcw=>(if qcw=0 then ((Qr.f (Qa.length:Int) 1 3).bind fun qiY=>(if qiY=true then (if (Qe.length:Int)=(Qa.length:Int) then ((Qr.f (Qb.length:Int) 1 6).bind fun qcK=>(Qd.j0 k qcK Qa Qe Qb)) else (Qd.j0 k false Qa Qe Qb)) else (Qd.j0 k false Qa Qe Qb))) else (Qd.j0 k false Qa Qe Qb))
def Qd.T9:Bool × List (List Nat × List Nat):=(true,[([],[]),([0],[0]),([],[]),([1,2],[1,2]),([3],[3]),([4],[4]),([],[]),([6],[6]),([7],[7]),([5,8],[5,8]),([9,0,1,2,3,4,5,6,7,8,9],[9])])
def Qd.B9:List Nat:=[0,1,0,7,15,31,0,64,192,511,1023]
theorem Qd.tab9:rtab .any (qex Try.f51 9)=Qd.T9:=by kernel_rfl
theorem Qd.bits9:OA Qd.T9.2 Qd.B9=true:=by kernel_rfl
def Qd.T13:Bool × List (List Nat × List Nat):=(true,[([],[]),([0],[0]),([],[]),([1,2],[1,2]),([3],[3]),([],[]),([4,5],[4,5]),([6],[6]),([7],[7]),([8],[8]),([9,9],[9]),([10],[10]),([11,10],[10,11]),([10],[10]),([12,13,10],[10,12,13]),([14,10],[10,14]),([10],[10]),([15,16,10],[10,15,16]),([17,10],[10,17]),([18,10],[10,18]),([10],[10]),([20,10],[10,20]),([21,10],[10,21]),([22,10],[10,22]),([23,10],[10,23]),([24,10],[10,24]),([25,10],[10,25]),([19,26,10],[10,19,26]),([10,27],[10,27]),([28,10,0,1,2,3,4,5,6,7,8,9,10,11,12,13,14,15,16,17,18,19,20,21,22,23,24,25,26,27,28],[28])])
def Qd.B13:List Nat:=[0,1,0,7,15,0,63,127,255,511,1023,2047,4095,2047,16383,32767,2047,131071,262143,524287,2047,1050623,3147775,7342079,15730687,32507903,66062335,134217727,268435455,536870911]
theorem Qd.tab13:rtab .any (qex Try.f51 13)=Qd.T13:=by kernel_rfl
theorem Qd.bits13:OA Qd.T13.2 Qd.B13=true:=by kernel_rfl
set_option maxHeartbeats 8000000 in
set_option maxRecDepth 100000 in
theorem Qd.calls (k:Nat) (QC:Option Addr) (Qs:Nat) (Qa:List (S39)) (QA:Option Addr) (Qt:Nat) (Qe:List Int) (QE:Option Addr) (Qu:Nat) (Qb:List (List (List Int))) (r:Bool) (w:World) (JV:Kd.C k39 w QC Qa.length Qa) (G7:Qa.length≤Qs) (JW:Kd.C (Kd.int .i64) w QA Qe.length Qe) (G8:Qe.length≤Qt) (JX:Kd.C (Kd.slice 37 (Kd.slice 3 (Kd.int .i64))) w QE Qb.length Qb) (G9:Qb.length≤Qu) (h:Qd.f k Qa Qe Qb=some r) :
  Calls Try.prog 51 #[.agg #[.slice QC Qa.length Qs,.slice QA Qe.length Qt,.slice QE Qb.length Qu]] w fun e w'=>e = .returned (.bool r)∧Below w.heap.size w w':=by
 have qmS:=Try.underlying47
 have qjH:=Try.underlying39
 have Z5:=Q0.mk JV
 have ZD:=Q0.mk G7
 clear JV G7
 have Zj:=Q0.mk JW
 have ZE:=Q0.mk G8
 clear JW G8
 have Z6:=Q0.mk JX
 have ZF:=Q0.mk G9
 clear JX G9
 have HB:=Q0.mk (Below.refl w.heap.size w)
 have H:((Qj.f k Qa Qe Qb).bind fun qcw=>(if qcw=0 then ((Qr.f (Qa.length:Int) 1 3).bind fun qiY=>(if qiY=true then (if (Qe.length:Int)=(Qa.length:Int) then ((Qr.f (Qb.length:Int) 1 6).bind fun qcK=>(Qd.j0 k qcK Qa Qe Qb)) else (Qd.j0 k false Qa Qe Qb)) else (Qd.j0 k false Qa Qe Qb))) else (Qd.j0 k false Qa Qe Qb)))=some r:=h
 clear h
 have HC2:=Q0.mk H
 clear H
 go_enter Try.func51,Try.ntmps51
 go_upto_region 1 with (first|((with_reducible refine QZ (N:=1) rfl ?_);(try (refine Jn (by rfl) ?_;dsimp only));refine Yp ?hg (N:=1) ?hd (cs:=#[.slice QC Qa.length Qs,.slice QA Qe.length Qt,.slice QE Qb.length Qu]) (t:=47) ?hr ?_;(case hd=>rfl);(case hg=>rfl);(case hr=>first|(go_simp;done)|(go_simp;rfl));intro Zd hg w3 hbox hb;have n0_:=Q0.mk (Qk (by repeat (first|(with_reducible first|exact HB.out|apply Q3|apply Q1|apply Q6)|exact HB.out)) hb);have n1_:=Q0.mk (hbox);have n2_:=Q0.mk ((by rw [hg];exact (Qi (by repeat (first|(with_reducible first|exact HB.out|apply Q3|apply Q1|apply Q6)|exact HB.out))):w.heap.size≤Zd));have n3_:=n2_;clear HB;have HB:=n0_;have Y1:=n1_;have qGq:=n2_;have Ks:=n3_;clear n0_ n1_ n2_ n3_ hb hbox hg))
 (try simp only [Act.put,List.setIfInBounds_toArray,List.set_cons_zero,List.set_cons_succ])
 go_cut [3] (fun v3 wc => ∃ (kq:Nat) (qhm:Bool),v3 = .bool qhm∧Q0 (Qd.j0 kq qhm Qa Qe Qb=some r)∧Q0 (kq≤k)∧Q0 (wc.heap[Zd]? = some (.cells #[(.slice QC Qa.length Qs),(.slice QA Qe.length Qt),(.slice QE Qb.length Qu)] 47 (0,0)))∧Q0 (Below w.heap.size w wc))
 case first =>
  have H:=HC2.out
  clear HC2
  replace H:=Option.bind_eq_some_iff.mp H
  obtain ⟨qcw,A40,H⟩:=H
  replace H:(if qcw=0 then ((Qr.f (Qa.length:Int) 1 3).bind fun qiY=>(if qiY=true then (if (Qe.length:Int)=(Qa.length:Int) then ((Qr.f (Qb.length:Int) 1 6).bind fun qcK=>(Qd.j0 k qcK Qa Qe Qb)) else (Qd.j0 k false Qa Qe Qb)) else (Qd.j0 k false Qa Qe Qb))) else (Qd.j0 k false Qa Qe Qb))=some r:=H
  have A4:=Q0.mk A40
  clear A40
  by_cases c5:qcw=0
  ·
   rw [if_pos c5] at H
   have c5b0:(qcw==0)=true:=beq_iff_eq.mpr c5
   have c5b1:(qcw != 0)=false:=bne_eq_false_iff_eq.mpr c5
   clear c5
   (first|rw [c5b0]|(simp only [QK,QP];rw [c5b0])|skip)
   replace H:=Option.bind_eq_some_iff.mp H
   obtain ⟨qiY,A60,H⟩:=H
   replace H:(if qiY=true then (if (Qe.length:Int)=(Qa.length:Int) then ((Qr.f (Qb.length:Int) 1 6).bind fun qcK=>(Qd.j0 k qcK Qa Qe Qb)) else (Qd.j0 k false Qa Qe Qb)) else (Qd.j0 k false Qa Qe Qb))=some r:=H
   have A6:=Q0.mk A60
   clear A60
   by_cases c7:qiY=true
   ·
    subst c7
    have H1:(if (Qe.length:Int)=(Qa.length:Int) then ((Qr.f (Qb.length:Int) 1 6).bind fun qcK=>(Qd.j0 k qcK Qa Qe Qb)) else (Qd.j0 k false Qa Qe Qb))=some r:=by rw [if_pos rfl] at H;exact H
    clear H;have H:=H1;clear H1
    by_cases c8:(Qe.length:Int)=(Qa.length:Int)
    ·
     rw [if_pos c8] at H;have c8b0:((Qe.length:Int)==(Qa.length:Int))=true:=beq_iff_eq.mpr c8;have c8b1:((Qe.length:Int) != (Qa.length:Int))=false:=bne_eq_false_iff_eq.mpr c8
     have c8b2:(Qe.length==Qa.length)=true:=by first|simpa using c8|(simp at c8 ⊢;omega)
     clear c8;replace H:=Option.bind_eq_some_iff.mp H;obtain ⟨qcK,A90,H⟩:=H;replace H:(Qd.j0 k qcK Qa Qe Qb)=some r:=H;have A9:=Q0.mk A90;clear A90;have H':=Q0.mk H;clear H;have ZI:w3.cell? ⟨Zd,0,none⟩=some (.slice QC Qa.length Qs):=(Q8 Y1.out 0).trans rfl;have ZJ:w3.cell? ⟨Zd,1,none⟩=some (.slice QA Qe.length Qt):=(Q8 Y1.out 1).trans rfl;have ZP:w3.cell? ⟨Zd,2,none⟩=some (.slice QE Qb.length Qu):=(Q8 Y1.out 2).trans rfl;have ZK:=Q9 Y1.out 0;have ZL:=Q9 Y1.out 1;have ZQ:=Q9 Y1.out 2
     go_wp2_with (first|((with_reducible refine QD (f:=30) rfl ?_);refine YC (some 8) rfl rfl Try.func30 (by kernel_rfl) rfl #[.agg #[.slice QC Qa.length Qs,.slice QA Qe.length Qt,.slice QE Qb.length Qu]] rfl (by (try simp only [List.map_toArray,List.map_cons,List.map_nil]);first|done|rfl|(simp only [List.length_drop,List.length_take];rfl)) ?_;(with_reducible refine (Qj.calls k _ _ Qa _ _ Qe _ _ Qb qcw _ ?side1 ?side2 ?side3 ?side4 ?side5 ?side6 A4.out).mono ?_);(case side1=>repeat (first|exact (Kd.C_below Z5.out HB.out)|(with_reducible refine Kd.C_alloc ?_ _)|(with_reducible refine Kd.C_drewN ?_ _)|(with_reducible refine Kd.C_drew ?_)));(case side2=>exact ZD.out);(case side3=>repeat (first|exact (Kd.C_below Zj.out HB.out)|(with_reducible refine Kd.C_alloc ?_ _)|(with_reducible refine Kd.C_drewN ?_ _)|(with_reducible refine Kd.C_drew ?_)));(case side4=>exact ZE.out);(case side5=>repeat (first|exact (Kd.C_below Z6.out HB.out)|(with_reducible refine Kd.C_alloc ?_ _)|(with_reducible refine Kd.C_drewN ?_ _)|(with_reducible refine Kd.C_drew ?_)));(case side6=>exact ZF.out);rintro e w11 ⟨rfl,hb⟩;refine ⟨_,rfl,?_⟩;have n0_:=Q0.mk (Qf (g:=Zd) (by (with_reducible repeat (first|refine Q4 ?_ _|refine Q7 ?_|refine Q2 ?_ _));exact Y1.out) hb);have n1_:=Q0.mk (Qk (by repeat (first|(with_reducible first|exact HB.out|apply Q3|apply Q1|apply Q6|refine Q5 ?_ Ks.out)|exact HB.out)) hb);clear Y1 HB;have Y1:=n0_;have HB:=n1_;clear n0_ n1_;(try clear hb);(try clear hb2);(try clear hk);(try clear hi);have Ju:w11.cell? ⟨Zd,0,none⟩=some (.slice QC Qa.length Qs):=(Q8 Y1.out 0).trans rfl;have Jv:w11.cell? ⟨Zd,1,none⟩=some (.slice QA Qe.length Qt):=(Q8 Y1.out 1).trans rfl;have JA:w11.cell? ⟨Zd,2,none⟩=some (.slice QE Qb.length Qu):=(Q8 Y1.out 2).trans rfl;have Jw:=Q9 Y1.out 0;have Jx:=Q9 Y1.out 1;have JC:=Q9 Y1.out 2)|(go_at_call 34;(with_reducible refine (Qr.calls (Qa.length:Int) 1 3 true _ A6.out).mono ?_);rintro e w' ⟨rfl,⟨nd,rfl⟩⟩)|(go_at_call 34;(with_reducible refine (Qr.calls (Qb.length:Int) 1 6 qcK _ A9.out).mono ?_);rintro e w' ⟨rfl,⟨nd,rfl⟩⟩))
     go_meet
     case rel=>exact ⟨_,(qcK),(by first|rfl|(simp;done)|(simp [*];done)),H',⟨by first|omega|exact Nat.le_refl _⟩,⟨by (with_reducible repeat (first|refine Q4 ?_ _|refine Q7 ?_|refine Q2 ?_ _));exact Y1.out⟩,⟨by repeat (first|(with_reducible first|exact HB.out|apply Q3|apply Q1|apply Q6|refine Q5 ?_ Ks.out)|exact HB.out)⟩⟩
    rw [if_neg c8] at H;have c8b0:((Qe.length:Int)==(Qa.length:Int))=false:=beq_eq_false_iff_ne.mpr c8;have c8b1:((Qe.length:Int) != (Qa.length:Int))=true:=bne_iff_ne.mpr c8
    have c8b2:(Qe.length==Qa.length)=false:=by first|simpa using c8|(simp at c8 ⊢;omega)
    have H':=Q0.mk H;clear H;have K0:w3.cell? ⟨Zd,0,none⟩=some (.slice QC Qa.length Qs):=(Q8 Y1.out 0).trans rfl;have K1:w3.cell? ⟨Zd,1,none⟩=some (.slice QA Qe.length Qt):=(Q8 Y1.out 1).trans rfl;have K2:w3.cell? ⟨Zd,2,none⟩=some (.slice QE Qb.length Qu):=(Q8 Y1.out 2).trans rfl;have Ke:=Q9 Y1.out 0;have Kf:=Q9 Y1.out 1;have Kg:=Q9 Y1.out 2
    go_wp2_with (first|((with_reducible refine QD (f:=30) rfl ?_);refine YC (some 8) rfl rfl Try.func30 (by kernel_rfl) rfl #[.agg #[.slice QC Qa.length Qs,.slice QA Qe.length Qt,.slice QE Qb.length Qu]] rfl (by (try simp only [List.map_toArray,List.map_cons,List.map_nil]);first|done|rfl|(simp only [List.length_drop,List.length_take];rfl)) ?_;(with_reducible refine (Qj.calls k _ _ Qa _ _ Qe _ _ Qb qcw _ ?side1 ?side2 ?side3 ?side4 ?side5 ?side6 A4.out).mono ?_);(case side1=>repeat (first|exact (Kd.C_below Z5.out HB.out)|(with_reducible refine Kd.C_alloc ?_ _)|(with_reducible refine Kd.C_drewN ?_ _)|(with_reducible refine Kd.C_drew ?_)));(case side2=>exact ZD.out);(case side3=>repeat (first|exact (Kd.C_below Zj.out HB.out)|(with_reducible refine Kd.C_alloc ?_ _)|(with_reducible refine Kd.C_drewN ?_ _)|(with_reducible refine Kd.C_drew ?_)));(case side4=>exact ZE.out);(case side5=>repeat (first|exact (Kd.C_below Z6.out HB.out)|(with_reducible refine Kd.C_alloc ?_ _)|(with_reducible refine Kd.C_drewN ?_ _)|(with_reducible refine Kd.C_drew ?_)));(case side6=>exact ZF.out);rintro e w14 ⟨rfl,hb⟩;refine ⟨_,rfl,?_⟩;have n0_:=Q0.mk (Qf (g:=Zd) (by (with_reducible repeat (first|refine Q4 ?_ _|refine Q7 ?_|refine Q2 ?_ _));exact Y1.out) hb);have n1_:=Q0.mk (Qk (by repeat (first|(with_reducible first|exact HB.out|apply Q3|apply Q1|apply Q6|refine Q5 ?_ Ks.out)|exact HB.out)) hb);clear Y1 HB;have Y1:=n0_;have HB:=n1_;clear n0_ n1_;(try clear hb);(try clear hb2);(try clear hk);(try clear hi);have Gu:w14.cell? ⟨Zd,0,none⟩=some (.slice QC Qa.length Qs):=(Q8 Y1.out 0).trans rfl;have Gv:w14.cell? ⟨Zd,1,none⟩=some (.slice QA Qe.length Qt):=(Q8 Y1.out 1).trans rfl;have Ka:w14.cell? ⟨Zd,2,none⟩=some (.slice QE Qb.length Qu):=(Q8 Y1.out 2).trans rfl;have Gz:=Q9 Y1.out 0;have GA:=Q9 Y1.out 1;have Kh:=Q9 Y1.out 2)|(go_at_call 34;(with_reducible refine (Qr.calls (Qa.length:Int) 1 3 true _ A6.out).mono ?_);rintro e w' ⟨rfl,⟨nd,rfl⟩⟩))
    go_meet
    case rel=>exact ⟨_,(false),(by first|rfl|(simp;done)|(simp [*];done)),H',⟨by first|omega|exact Nat.le_refl _⟩,⟨by (with_reducible repeat (first|refine Q4 ?_ _|refine Q7 ?_|refine Q2 ?_ _));exact Y1.out⟩,⟨by repeat (first|(with_reducible first|exact HB.out|apply Q3|apply Q1|apply Q6|refine Q5 ?_ Ks.out)|exact HB.out)⟩⟩
   replace c7:=Bool.eq_false_iff.mpr c7
   subst c7
   have H1:(Qd.j0 k false Qa Qe Qb)=some r:=by rw [if_neg (show ¬ (false=true) by decide)] at H;exact H
   clear H
   have H:=H1
   clear H1
   have H':=Q0.mk H
   clear H
   have Oh:w3.cell? ⟨Zd,0,none⟩=some (.slice QC Qa.length Qs):=(Q8 Y1.out 0).trans rfl
   have Oi:w3.cell? ⟨Zd,1,none⟩=some (.slice QA Qe.length Qt):=(Q8 Y1.out 1).trans rfl
   have Oj:w3.cell? ⟨Zd,2,none⟩=some (.slice QE Qb.length Qu):=(Q8 Y1.out 2).trans rfl
   have Ol:=Q9 Y1.out 0
   have Om:=Q9 Y1.out 1
   have On:=Q9 Y1.out 2
   go_wp2_with (first|((with_reducible refine QD (f:=30) rfl ?_);refine YC (some 8) rfl rfl Try.func30 (by kernel_rfl) rfl #[.agg #[.slice QC Qa.length Qs,.slice QA Qe.length Qt,.slice QE Qb.length Qu]] rfl (by (try simp only [List.map_toArray,List.map_cons,List.map_nil]);first|done|rfl|(simp only [List.length_drop,List.length_take];rfl)) ?_;(with_reducible refine (Qj.calls k _ _ Qa _ _ Qe _ _ Qb qcw _ ?side1 ?side2 ?side3 ?side4 ?side5 ?side6 A4.out).mono ?_);(case side1=>repeat (first|exact (Kd.C_below Z5.out HB.out)|(with_reducible refine Kd.C_alloc ?_ _)|(with_reducible refine Kd.C_drewN ?_ _)|(with_reducible refine Kd.C_drew ?_)));(case side2=>exact ZD.out);(case side3=>repeat (first|exact (Kd.C_below Zj.out HB.out)|(with_reducible refine Kd.C_alloc ?_ _)|(with_reducible refine Kd.C_drewN ?_ _)|(with_reducible refine Kd.C_drew ?_)));(case side4=>exact ZE.out);(case side5=>repeat (first|exact (Kd.C_below Z6.out HB.out)|(with_reducible refine Kd.C_alloc ?_ _)|(with_reducible refine Kd.C_drewN ?_ _)|(with_reducible refine Kd.C_drew ?_)));(case side6=>exact ZF.out);rintro e w17 ⟨rfl,hb⟩;refine ⟨_,rfl,?_⟩;have n0_:=Q0.mk (Qf (g:=Zd) (by (with_reducible repeat (first|refine Q4 ?_ _|refine Q7 ?_|refine Q2 ?_ _));exact Y1.out) hb);have n1_:=Q0.mk (Qk (by repeat (first|(with_reducible first|exact HB.out|apply Q3|apply Q1|apply Q6|refine Q5 ?_ Ks.out)|exact HB.out)) hb);clear Y1 HB;have Y1:=n0_;have HB:=n1_;clear n0_ n1_;(try clear hb);(try clear hb2);(try clear hk);(try clear hi);have Gw:w17.cell? ⟨Zd,0,none⟩=some (.slice QC Qa.length Qs):=(Q8 Y1.out 0).trans rfl;have Gx:w17.cell? ⟨Zd,1,none⟩=some (.slice QA Qe.length Qt):=(Q8 Y1.out 1).trans rfl;have Gy:w17.cell? ⟨Zd,2,none⟩=some (.slice QE Qb.length Qu):=(Q8 Y1.out 2).trans rfl;have GC:=Q9 Y1.out 0;have GD:=Q9 Y1.out 1;have GE:=Q9 Y1.out 2)|(go_at_call 34;(with_reducible refine (Qr.calls (Qa.length:Int) 1 3 false _ A6.out).mono ?_);rintro e w' ⟨rfl,⟨nd,rfl⟩⟩))
   go_meet
   case rel=>exact ⟨_,(false),(by first|rfl|(simp;done)|(simp [*];done)),H',⟨by first|omega|exact Nat.le_refl _⟩,⟨by (with_reducible repeat (first|refine Q4 ?_ _|refine Q7 ?_|refine Q2 ?_ _));exact Y1.out⟩,⟨by repeat (first|(with_reducible first|exact HB.out|apply Q3|apply Q1|apply Q6|refine Q5 ?_ Ks.out)|exact HB.out)⟩⟩
  rw [if_neg c5] at H
  have c5b0:(qcw==0)=false:=beq_eq_false_iff_ne.mpr c5
  have c5b1:(qcw != 0)=true:=bne_iff_ne.mpr c5
  (first|rw [c5b0]|(simp only [QK,QP];rw [c5b0])|skip)
  have H':=Q0.mk H
  clear H
  have WP:w3.cell? ⟨Zd,0,none⟩=some (.slice QC Qa.length Qs):=(Q8 Y1.out 0).trans rfl
  have WQ:w3.cell? ⟨Zd,1,none⟩=some (.slice QA Qe.length Qt):=(Q8 Y1.out 1).trans rfl
  have WR:w3.cell? ⟨Zd,2,none⟩=some (.slice QE Qb.length Qu):=(Q8 Y1.out 2).trans rfl
  have WX:=Q9 Y1.out 0
  have WY:=Q9 Y1.out 1
  have WZ:=Q9 Y1.out 2
  go_wp2_with (first|((with_reducible refine QD (f:=30) rfl ?_);refine YC (some 8) rfl rfl Try.func30 (by kernel_rfl) rfl #[.agg #[.slice QC Qa.length Qs,.slice QA Qe.length Qt,.slice QE Qb.length Qu]] rfl (by (try simp only [List.map_toArray,List.map_cons,List.map_nil]);first|done|rfl|(simp only [List.length_drop,List.length_take];rfl)) ?_;(with_reducible refine (Qj.calls k _ _ Qa _ _ Qe _ _ Qb qcw _ ?side1 ?side2 ?side3 ?side4 ?side5 ?side6 A4.out).mono ?_);(case side1=>repeat (first|exact (Kd.C_below Z5.out HB.out)|(with_reducible refine Kd.C_alloc ?_ _)|(with_reducible refine Kd.C_drewN ?_ _)|(with_reducible refine Kd.C_drew ?_)));(case side2=>exact ZD.out);(case side3=>repeat (first|exact (Kd.C_below Zj.out HB.out)|(with_reducible refine Kd.C_alloc ?_ _)|(with_reducible refine Kd.C_drewN ?_ _)|(with_reducible refine Kd.C_drew ?_)));(case side4=>exact ZE.out);(case side5=>repeat (first|exact (Kd.C_below Z6.out HB.out)|(with_reducible refine Kd.C_alloc ?_ _)|(with_reducible refine Kd.C_drewN ?_ _)|(with_reducible refine Kd.C_drew ?_)));(case side6=>exact ZF.out);rintro e w20 ⟨rfl,hb⟩;refine ⟨_,rfl,?_⟩;have n0_:=Q0.mk (Qf (g:=Zd) (by (with_reducible repeat (first|refine Q4 ?_ _|refine Q7 ?_|refine Q2 ?_ _));exact Y1.out) hb);have n1_:=Q0.mk (Qk (by repeat (first|(with_reducible first|exact HB.out|apply Q3|apply Q1|apply Q6|refine Q5 ?_ Ks.out)|exact HB.out)) hb);clear Y1 HB;have Y1:=n0_;have HB:=n1_;clear n0_ n1_;(try clear hb);(try clear hb2);(try clear hk);(try clear hi)))
  go_meet
  case rel=>exact ⟨_,(false),(by first|rfl|(simp;done)|(simp [*];done)),H',⟨by first|omega|exact Nat.le_refl _⟩,⟨by (with_reducible repeat (first|refine Q4 ?_ _|refine Q7 ?_|refine Q2 ?_ _));exact Y1.out⟩,⟨by repeat (first|(with_reducible first|exact HB.out|apply Q3|apply Q1|apply Q6|refine Q5 ?_ Ks.out)|exact HB.out)⟩⟩
 case rest =>
  clear HC2
  try clear p2
  try clear c3
  try clear c5
  try clear c5b0
  try clear c5b1
  try clear c7
  try clear c8
  try clear c8b0
  try clear c8b1
  try clear c8b2
  try clear ZI
  try clear ZJ
  try clear ZP
  try clear Ju
  try clear Jv
  try clear JA
  try clear K0
  try clear K1
  try clear K2
  try clear Gu
  try clear Gv
  try clear Ka
  try clear Oh
  try clear Oi
  try clear Oj
  try clear Gw
  try clear Gx
  try clear Gy
  try clear WP
  try clear WQ
  try clear WR
  try clear ZK
  try clear ZL
  try clear ZQ
  try clear Jw
  try clear Jx
  try clear JC
  try clear Ke
  try clear Kf
  try clear Kg
  try clear Gz
  try clear GA
  try clear Kh
  try clear Ol
  try clear Om
  try clear On
  try clear GC
  try clear GD
  try clear GE
  try clear WX
  try clear WY
  try clear WZ
  obtain ⟨kq,qhm,rfl,HA,HJ1,Y1,HB⟩:=hcut
  cases kq with
  | zero=>exact absurd HA.out (by simp [Qd.j0])
  | succ kj1 =>
   have H:=HA.out
   clear HA
   simp only [Qd.j0] at H
   have H':=Q0.mk H
   clear H
   go_wp2
   go_loopg [3,4] kj1 (fun kq v3 v4 w' => ∃ (qkE:Bool) (Zl:Int),v3 = .bool qkE∧v4 = .int .i64 Zl∧Q0 (Qd.l0 kq qkE Zl Qa Qe Qb=some r)∧Q0 (kq≤kj1)∧Q0 (w'.heap[Zd]? = some (.cells #[(.slice QC Qa.length Qs),(.slice QA Qe.length Qt),(.slice QE Qb.length Qu)] 47 (0,0)))∧Q0 (Below w.heap.size w w'))
   case atStart=>exact ⟨(qhm),(0),(by first|rfl|(simp;done)|(simp [*];done)),(by first|rfl|(simp;done)|(simp [*];done)),H',⟨Nat.le_refl _⟩,⟨by (with_reducible repeat (first|refine Q4 ?_ _|refine Q7 ?_|refine Q2 ?_ _));exact Y1.out⟩,⟨by repeat (first|(with_reducible first|exact HB.out|apply Q3|apply Q1|apply Q6|refine Q5 ?_ Ks.out)|exact HB.out)⟩⟩
   case round =>
    clear H';(try clear p2);(try clear c3);(try clear c5);(try clear c5b0);(try clear c5b1);(try clear c7);(try clear c8);(try clear c8b0);(try clear c8b1);(try clear c8b2);(try clear ZI);(try clear ZJ);(try clear ZP);(try clear Ju);(try clear Jv);(try clear JA);(try clear K0);(try clear K1);(try clear K2);(try clear Gu);(try clear Gv);(try clear Ka);(try clear Oh);(try clear Oi);(try clear Oj);(try clear Gw);(try clear Gx);(try clear Gy);(try clear WP);(try clear WQ);(try clear WR);(try clear ZK);(try clear ZL);(try clear ZQ);(try clear Jw);(try clear Jx);(try clear JC);(try clear Ke);(try clear Kf);(try clear Kg);(try clear Gz);(try clear GA);(try clear Kh);(try clear Ol);(try clear Om);(try clear On);(try clear GC);(try clear GD);(try clear GE);(try clear WX);(try clear WY);(try clear WZ);(try clear p2);obtain ⟨qkE,Zl,rfl,rfl,HA,HK2,Y1,HB⟩:=hrel
    cases gk with
    | zero=>exact absurd HA.out (by simp [Qd.l0])
    | succ k2 =>
     have H:=HA.out;clear HA;simp only [Qd.l0] at H;have qti:=Q0.mk H;clear H
     go_upto_region 3 with (fail)
     go_cut [38] (fun v38 wc => ∃ (kq:Nat) (qhk:Bool),v38 = .bool qhk∧Q0 (Qd.j2 kq qkE Zl qhk Qa Qe Qb=some r)∧Q0 (kq≤k2)∧Q0 (wc.heap[Zd]? = some (.cells #[(.slice QC Qa.length Qs),(.slice QA Qe.length Qt),(.slice QE Qb.length Qu)] 47 (0,0)))∧Q0 (Below w.heap.size w wc))
     case first =>
      have H:=qti.out;clear qti
      by_cases c22:qkE=true
      ·
       subst c22
       have H1:(Qd.j2 k2 true Zl (decide (Zl<(Qa.length:Int))) Qa Qe Qb)=some r:=by rw [if_pos rfl] at H;exact H
       clear H;have H:=H1;clear H1;have H':=Q0.mk H;clear H;have OX:wr.cell? ⟨Zd,0,none⟩=some (.slice QC Qa.length Qs):=(Q8 Y1.out 0).trans rfl;have OY:wr.cell? ⟨Zd,1,none⟩=some (.slice QA Qe.length Qt):=(Q8 Y1.out 1).trans rfl;have OZ:wr.cell? ⟨Zd,2,none⟩=some (.slice QE Qb.length Qu):=(Q8 Y1.out 2).trans rfl;have U0:=Q9 Y1.out 0;have U1:=Q9 Y1.out 1;have U2:=Q9 Y1.out 2
       go_wp2
       go_meet
       case rel=>exact ⟨_,(decide (Zl<(Qa.length:Int))),(by first|rfl|(simp;done)|(simp [*];done)),H',⟨by have:=HJ1.out;have:=HK2.out;first|omega|exact Nat.le_refl _⟩,⟨by (with_reducible repeat (first|refine Q4 ?_ _|refine Q7 ?_|refine Q2 ?_ _));exact Y1.out⟩,⟨by repeat (first|(with_reducible first|exact HB.out|apply Q3|apply Q1|apply Q6|refine Q5 ?_ Ks.out)|exact HB.out)⟩⟩
      replace c22:=Bool.eq_false_iff.mpr c22;subst c22
      have H1:(Qd.j2 k2 false Zl false Qa Qe Qb)=some r:=by rw [if_neg (show ¬ (false=true) by decide)] at H;exact H
      clear H;have H:=H1;clear H1;have H':=Q0.mk H;clear H
      go_wp2
      go_meet
      case rel=>exact ⟨_,(false),(by first|rfl|(simp;done)|(simp [*];done)),H',⟨by have:=HJ1.out;have:=HK2.out;first|omega|exact Nat.le_refl _⟩,⟨by (with_reducible repeat (first|refine Q4 ?_ _|refine Q7 ?_|refine Q2 ?_ _));exact Y1.out⟩,⟨by repeat (first|(with_reducible first|exact HB.out|apply Q3|apply Q1|apply Q6|refine Q5 ?_ Ks.out)|exact HB.out)⟩⟩
     case rest =>
      clear qti;(try clear c2);(try clear p2);(try clear c3);(try clear c5);(try clear c5b0);(try clear c5b1);(try clear c7);(try clear c8);(try clear c8b0);(try clear c8b1);(try clear c8b2);(try clear c22);(try clear ZI);(try clear ZJ);(try clear ZP);(try clear Ju);(try clear Jv);(try clear JA);(try clear K0);(try clear K1);(try clear K2);(try clear Gu);(try clear Gv);(try clear Ka);(try clear Oh);(try clear Oi);(try clear Oj);(try clear Gw);(try clear Gx);(try clear Gy);(try clear WP);(try clear WQ);(try clear WR);(try clear OX);(try clear OY);(try clear OZ);(try clear ZK);(try clear ZL);(try clear ZQ);(try clear Jw);(try clear Jx);(try clear JC);(try clear Ke);(try clear Kf);(try clear Kg);(try clear Gz);(try clear GA);(try clear Kh);(try clear Ol);(try clear Om);(try clear On);(try clear GC);(try clear GD);(try clear GE);(try clear WX);(try clear WY);(try clear WZ);(try clear U0);(try clear U1);(try clear U2);(try clear p2);obtain ⟨kq,qhk,rfl,HA,qbg,Y1,HB⟩:=hcut
      cases kq with
      | zero=>exact absurd HA.out (by simp [Qd.j2])
      | succ qa3 =>
       have H:=HA.out;clear HA;simp only [Qd.j2] at H
       by_cases c24:qhk=true
       ·
        subst c24
        have H1:(if 0≤Zl then (if Zl<(Qa.length:Int) then ((Qo.f qa3 ((Qc Qa Zl).f0) ((Qc Qa Zl).f1) ((Qc Qa Zl).f2) ((Qc Qa Zl).f3) ((Qc Qa Zl).f4)).bind fun qiZ=>(if qiZ=true then (if Zl<(Qe.length:Int) then ((Qr.f (rd Qe Zl) 0 100).bind fun qeI=>(Qd.l0 qa3 qeI (wrap64 (Zl+1)) Qa Qe Qb)) else (none)) else (Qd.l0 qa3 false (wrap64 (Zl+1)) Qa Qe Qb))) else (none)) else (none))=some r:=by rw [if_pos rfl] at H;exact H
        clear H;have H:=H1;clear H1
        by_cases c25:0≤Zl
        ·
         rw [if_pos c25] at H;have c25b0:decide (0≤Zl)=true:=decide_eq_true c25;clear c25
         by_cases c26:Zl<(Qa.length:Int)
         ·
          rw [if_pos c26] at H;have c26b0:decide (Zl<(Qa.length:Int))=true:=decide_eq_true c26;clear c26;replace H:=Option.bind_eq_some_iff.mp H;obtain ⟨qiZ,qhx,H⟩:=H;replace H:(if qiZ=true then (if Zl<(Qe.length:Int) then ((Qr.f (rd Qe Zl) 0 100).bind fun qeI=>(Qd.l0 qa3 qeI (wrap64 (Zl+1)) Qa Qe Qb)) else (none)) else (Qd.l0 qa3 false (wrap64 (Zl+1)) Qa Qe Qb))=some r:=H;have A27:=Q0.mk qhx;clear qhx
          by_cases c28:qiZ=true
          ·
           subst c28
           have H1:(if Zl<(Qe.length:Int) then ((Qr.f (rd Qe Zl) 0 100).bind fun qeI=>(Qd.l0 qa3 qeI (wrap64 (Zl+1)) Qa Qe Qb)) else (none))=some r:=by rw [if_pos rfl] at H;exact H
           clear H;have H:=H1;clear H1
           by_cases c29:Zl<(Qe.length:Int)
           ·
            rw [if_pos c29] at H;have c29b0:decide (Zl<(Qe.length:Int))=true:=decide_eq_true c29;clear c29;replace H:=Option.bind_eq_some_iff.mp H;obtain ⟨qeI,qu5,H⟩:=H;replace H:(Qd.l0 qa3 qeI (wrap64 (Zl+1)) Qa Qe Qb)=some r:=H;have A30:=Q0.mk qu5;clear qu5;have H':=Q0.mk H;clear H;have qfZ:wc.cell? ⟨Zd,0,none⟩=some (.slice QC Qa.length Qs):=(Q8 Y1.out 0).trans rfl;have qf0:wc.cell? ⟨Zd,1,none⟩=some (.slice QA Qe.length Qt):=(Q8 Y1.out 1).trans rfl;have qf1:wc.cell? ⟨Zd,2,none⟩=some (.slice QE Qb.length Qu):=(Q8 Y1.out 2).trans rfl;have qgo:=Q9 Y1.out 0;have qgp:=Q9 Y1.out 1;have qgq:=Q9 Y1.out 2;have qeT:0≤(Zl:Int):=of_decide_eq_true (by first|(with_reducible assumption)|assumption);have qeV:Zl<(Qa.length:Int):=of_decide_eq_true (by first|(with_reducible assumption)|assumption);obtain ⟨qk8,qjc,qjq,qjd,qjr,qje,qjs,qtM,U3,U4,U5,U6,U7,qbY,qbK,qbZ,qbL,qb0,qbM⟩:=XI Z5.out Zl qeT qeV;cases qtM;replace U3:=(HB.out.cell (World.block_lt_of_cell? w _ U3)).trans U3;replace U4:=(HB.out.cell (World.block_lt_of_cell? w _ U4)).trans U4;replace U5:=(HB.out.cell (World.block_lt_of_cell? w _ U5)).trans U5;replace U6:=(HB.out.cell (World.block_lt_of_cell? w _ U6)).trans U6;replace U7:=(HB.out.cell (World.block_lt_of_cell? w _ U7)).trans U7;have qfC:=Q0.mk qbK;have qfw:=Q0.mk qbY;clear qbK qbY;have qfD:=Q0.mk qbL;have qfx:=Q0.mk qbZ;clear qbL qbZ;have qfE:=Q0.mk qbM;have qfy:=Q0.mk qb0;clear qbM qb0;replace qeT:=eq_true qeT;replace qeV:=eq_true qeV
            go_wp2_with (first|((with_reducible refine QD (f:=50) rfl ?_);refine YC (some 46) rfl rfl Try.func50 (by kernel_rfl) rfl #[.agg #[.slice qjc ((Qc Qa Zl).f0).length qjq,.slice qjd ((Qc Qa Zl).f1).length qjr,.slice qje ((Qc Qa Zl).f2).length qjs,.int .i64 ((Qc Qa Zl).f3),.int .i64 ((Qc Qa Zl).f4)]] rfl (by (try simp only [List.map_toArray,List.map_cons,List.map_nil]);first|done|rfl|(simp only [List.length_drop,List.length_take];rfl)) ?_;(with_reducible refine (Qo.calls qa3 _ _ ((Qc Qa Zl).f0) _ _ ((Qc Qa Zl).f1) _ _ ((Qc Qa Zl).f2) ((Qc Qa Zl).f3) ((Qc Qa Zl).f4) true _ ?side1 ?side2 ?side3 ?side4 ?side5 ?side6 A27.out).mono ?_);(case side1=>repeat (first|exact (Kd.C_below qfC.out HB.out)|(with_reducible refine Kd.C_alloc ?_ _)|(with_reducible refine Kd.C_drewN ?_ _)|(with_reducible refine Kd.C_drew ?_)));(case side2=>exact qfw.out);(case side3=>repeat (first|exact (Kd.C_below qfD.out HB.out)|(with_reducible refine Kd.C_alloc ?_ _)|(with_reducible refine Kd.C_drewN ?_ _)|(with_reducible refine Kd.C_drew ?_)));(case side4=>exact qfx.out);(case side5=>repeat (first|exact (Kd.C_below qfE.out HB.out)|(with_reducible refine Kd.C_alloc ?_ _)|(with_reducible refine Kd.C_drewN ?_ _)|(with_reducible refine Kd.C_drew ?_)));(case side6=>exact qfy.out);rintro e w32 ⟨rfl,hb⟩;refine ⟨_,rfl,?_⟩;have n0_:=Q0.mk (Qf (g:=Zd) (by (with_reducible repeat (first|refine Q4 ?_ _|refine Q7 ?_|refine Q2 ?_ _));exact Y1.out) hb);have n1_:=Q0.mk (Qk (by repeat (first|(with_reducible first|exact HB.out|apply Q3|apply Q1|apply Q6|refine Q5 ?_ Ks.out)|exact HB.out)) hb);clear Y1 HB;have Y1:=n0_;have HB:=n1_;clear n0_ n1_;(try clear hb);(try clear hb2);(try clear hk);(try clear hi);have qf2:w32.cell? ⟨Zd,0,none⟩=some (.slice (some qk8) Qa.length Qs):=(Q8 Y1.out 0).trans rfl;have qf3:w32.cell? ⟨Zd,1,none⟩=some (.slice QA Qe.length Qt):=(Q8 Y1.out 1).trans rfl;have qf4:w32.cell? ⟨Zd,2,none⟩=some (.slice QE Qb.length Qu):=(Q8 Y1.out 2).trans rfl;have qgr:=Q9 Y1.out 0;have qgs:=Q9 Y1.out 1;have qgt:=Q9 Y1.out 2;have qmZ:0≤(Zl:Int):=of_decide_eq_true (by first|(with_reducible assumption)|assumption);have qm0:Zl<(Qe.length:Int):=of_decide_eq_true (by first|(with_reducible assumption)|assumption);obtain ⟨qGB,qEV,qar⟩:=Kd.at_int Zj.out Zl qmZ qm0;cases qEV;replace qar:=(HB.out.cell (World.block_lt_of_cell? w _ qar)).trans qar;replace qmZ:=eq_true qmZ;replace qm0:=eq_true qm0)|(go_at_call 34;(with_reducible refine (Qr.calls (rd Qe Zl) 0 100 qeI _ A30.out).mono ?_);rintro e w' ⟨rfl,⟨nd,rfl⟩⟩))
            go_roundg qa3
            case measure=>have:=HJ1.out;have:=HK2.out;have:=qbg.out;omega
            case rel=>exact ⟨(qeI),(wrap64 (Zl+1)),(by first|rfl|(simp;done)|(simp [*];done)),(by first|rfl|(simp;done)|(simp [*];done)),H',⟨by have:=HJ1.out;have:=HK2.out;have:=qbg.out;omega⟩,⟨by (with_reducible repeat (first|refine Q4 ?_ _|refine Q7 ?_|refine Q2 ?_ _));exact Y1.out⟩,⟨by repeat (first|(with_reducible first|exact HB.out|apply Q3|apply Q1|apply Q6|refine Q5 ?_ Ks.out)|exact HB.out)⟩⟩
           rw [if_neg c29] at H
           exact absurd H (by simp)
          replace c28:=Bool.eq_false_iff.mpr c28;subst c28
          have H1:(Qd.l0 qa3 false (wrap64 (Zl+1)) Qa Qe Qb)=some r:=by rw [if_neg (show ¬ (false=true) by decide)] at H;exact H
          clear H;have H:=H1;clear H1;have H':=Q0.mk H;clear H;have qf5:wc.cell? ⟨Zd,0,none⟩=some (.slice QC Qa.length Qs):=(Q8 Y1.out 0).trans rfl;have qf6:wc.cell? ⟨Zd,1,none⟩=some (.slice QA Qe.length Qt):=(Q8 Y1.out 1).trans rfl;have qf7:wc.cell? ⟨Zd,2,none⟩=some (.slice QE Qb.length Qu):=(Q8 Y1.out 2).trans rfl;have qgu:=Q9 Y1.out 0;have qgv:=Q9 Y1.out 1;have qgw:=Q9 Y1.out 2;have qeT:0≤(Zl:Int):=of_decide_eq_true (by first|(with_reducible assumption)|assumption);have qeV:Zl<(Qa.length:Int):=of_decide_eq_true (by first|(with_reducible assumption)|assumption);obtain ⟨qk8,qjc,qjq,qjd,qjr,qje,qjs,qtM,U3,U4,U5,U6,U7,qbY,qbK,qbZ,qbL,qb0,qbM⟩:=XI Z5.out Zl qeT qeV;cases qtM;replace U3:=(HB.out.cell (World.block_lt_of_cell? w _ U3)).trans U3;replace U4:=(HB.out.cell (World.block_lt_of_cell? w _ U4)).trans U4;replace U5:=(HB.out.cell (World.block_lt_of_cell? w _ U5)).trans U5;replace U6:=(HB.out.cell (World.block_lt_of_cell? w _ U6)).trans U6;replace U7:=(HB.out.cell (World.block_lt_of_cell? w _ U7)).trans U7;have qfC:=Q0.mk qbK;have qfw:=Q0.mk qbY;clear qbK qbY;have qfD:=Q0.mk qbL;have qfx:=Q0.mk qbZ;clear qbL qbZ;have qfE:=Q0.mk qbM;have qfy:=Q0.mk qb0;clear qbM qb0;replace qeT:=eq_true qeT;replace qeV:=eq_true qeV
          go_wp2_with (first|((with_reducible refine QD (f:=50) rfl ?_);refine YC (some 46) rfl rfl Try.func50 (by kernel_rfl) rfl #[.agg #[.slice qjc ((Qc Qa Zl).f0).length qjq,.slice qjd ((Qc Qa Zl).f1).length qjr,.slice qje ((Qc Qa Zl).f2).length qjs,.int .i64 ((Qc Qa Zl).f3),.int .i64 ((Qc Qa Zl).f4)]] rfl (by (try simp only [List.map_toArray,List.map_cons,List.map_nil]);first|done|rfl|(simp only [List.length_drop,List.length_take];rfl)) ?_;(with_reducible refine (Qo.calls qa3 _ _ ((Qc Qa Zl).f0) _ _ ((Qc Qa Zl).f1) _ _ ((Qc Qa Zl).f2) ((Qc Qa Zl).f3) ((Qc Qa Zl).f4) false _ ?side1 ?side2 ?side3 ?side4 ?side5 ?side6 A27.out).mono ?_);(case side1=>repeat (first|exact (Kd.C_below qfC.out HB.out)|(with_reducible refine Kd.C_alloc ?_ _)|(with_reducible refine Kd.C_drewN ?_ _)|(with_reducible refine Kd.C_drew ?_)));(case side2=>exact qfw.out);(case side3=>repeat (first|exact (Kd.C_below qfD.out HB.out)|(with_reducible refine Kd.C_alloc ?_ _)|(with_reducible refine Kd.C_drewN ?_ _)|(with_reducible refine Kd.C_drew ?_)));(case side4=>exact qfx.out);(case side5=>repeat (first|exact (Kd.C_below qfE.out HB.out)|(with_reducible refine Kd.C_alloc ?_ _)|(with_reducible refine Kd.C_drewN ?_ _)|(with_reducible refine Kd.C_drew ?_)));(case side6=>exact qfy.out);rintro e w35 ⟨rfl,hb⟩;refine ⟨_,rfl,?_⟩;have n0_:=Q0.mk (Qf (g:=Zd) (by (with_reducible repeat (first|refine Q4 ?_ _|refine Q7 ?_|refine Q2 ?_ _));exact Y1.out) hb);have n1_:=Q0.mk (Qk (by repeat (first|(with_reducible first|exact HB.out|apply Q3|apply Q1|apply Q6|refine Q5 ?_ Ks.out)|exact HB.out)) hb);clear Y1 HB;have Y1:=n0_;have HB:=n1_;clear n0_ n1_;(try clear hb);(try clear hb2);(try clear hk);(try clear hi)))
          go_roundg qa3
          case measure=>have:=HJ1.out;have:=HK2.out;have:=qbg.out;omega
          case rel=>exact ⟨(false),(wrap64 (Zl+1)),(by first|rfl|(simp;done)|(simp [*];done)),(by first|rfl|(simp;done)|(simp [*];done)),H',⟨by have:=HJ1.out;have:=HK2.out;have:=qbg.out;omega⟩,⟨by (with_reducible repeat (first|refine Q4 ?_ _|refine Q7 ?_|refine Q2 ?_ _));exact Y1.out⟩,⟨by repeat (first|(with_reducible first|exact HB.out|apply Q3|apply Q1|apply Q6|refine Q5 ?_ Ks.out)|exact HB.out)⟩⟩
         rw [if_neg c26] at H
         exact absurd H (by simp)
        rw [if_neg c25] at H
        exact absurd H (by simp)
       replace c24:=Bool.eq_false_iff.mpr c24;subst c24
       have H1:(Qd.l1 qa3 qkE 0 Qa Qe Qb)=some r:=by rw [if_neg (show ¬ (false=true) by decide)] at H;exact H
       clear H;have H:=H1;clear H1;have H':=Q0.mk H;clear H
       go_wp2
       go_loopg [3,5] qa3 (fun kq v3 v5 w' => ∃ (qnp:Bool) (ZZ:Int),v3 = .bool qnp∧v5 = .int .i64 ZZ∧Q0 (Qd.l1 kq qnp ZZ Qa Qe Qb=some r)∧Q0 (kq≤qa3)∧Q0 (w'.heap[Zd]? = some (.cells #[(.slice QC Qa.length Qs),(.slice QA Qe.length Qt),(.slice QE Qb.length Qu)] 47 (0,0)))∧Q0 (Below w.heap.size w w'))
       case atStart=>exact ⟨(qkE),(0),(by first|rfl|(simp;done)|(simp [*];done)),(by first|rfl|(simp;done)|(simp [*];done)),H',⟨Nat.le_refl _⟩,⟨by (with_reducible repeat (first|refine Q4 ?_ _|refine Q7 ?_|refine Q2 ?_ _));exact Y1.out⟩,⟨by repeat (first|(with_reducible first|exact HB.out|apply Q3|apply Q1|apply Q6|refine Q5 ?_ Ks.out)|exact HB.out)⟩⟩
       case round =>
        clear H';(try clear c2);(try clear p2);(try clear c3);(try clear c5);(try clear c5b0);(try clear c5b1);(try clear p6);(try clear c7);(try clear c8);(try clear c8b0);(try clear c8b1);(try clear c8b2);(try clear c9);(try clear p9);(try clear q9);(try clear hx9);(try clear c22);(try clear c24);(try clear c25);(try clear c25b0);(try clear c26);(try clear c26b0);(try clear c28);(try clear c29);(try clear c29b0);(try clear c30);(try clear ZI);(try clear ZJ);(try clear ZP);(try clear Ju);(try clear Jv);(try clear JA);(try clear K0);(try clear K1);(try clear K2);(try clear Gu);(try clear Gv);(try clear Ka);(try clear Oh);(try clear Oi);(try clear Oj);(try clear Gw);(try clear Gx);(try clear Gy);(try clear WP);(try clear WQ);(try clear WR);(try clear OX);(try clear OY);(try clear OZ);(try clear qfZ);(try clear qf0);(try clear qf1);(try clear qf2);(try clear qf3);(try clear qf4);(try clear qf5);(try clear qf6);(try clear qf7);(try clear ZK);(try clear ZL);(try clear ZQ);(try clear Jw);(try clear Jx);(try clear JC);(try clear Ke);(try clear Kf);(try clear Kg);(try clear Gz);(try clear GA);(try clear Kh);(try clear Ol);(try clear Om);(try clear On);(try clear GC);(try clear GD);(try clear GE);(try clear WX);(try clear WY);(try clear WZ);(try clear U0);(try clear U1);(try clear U2);(try clear qgo);(try clear qgp);(try clear qgq);(try clear qgr);(try clear qgs);(try clear qgt);(try clear qgu);(try clear qgv);(try clear qgw);(try clear U3);(try clear U4);(try clear U5);(try clear U6);(try clear U7);(try clear qar);(try clear p2);(try clear qeT);(try clear qmZ);(try clear qeV);(try clear qm0);obtain ⟨qnp,ZZ,rfl,rfl,HA,HK4,Y1,HB⟩:=hrel
        cases gk with
        | zero=>exact absurd HA.out (by simp [Qd.l1])
        | succ k4 =>
         have H:=HA.out;clear HA;simp only [Qd.l1] at H;have qtl:=Q0.mk H;clear H
         go_upto_region 7 with (fail)
         go_cut [62] (fun v62 wc => ∃ (kq:Nat) (qhp:Bool),v62 = .bool qhp∧Q0 (Qd.j4 kq qnp ZZ qhp Qa Qe Qb=some r)∧Q0 (kq≤k4)∧Q0 (wc.heap[Zd]? = some (.cells #[(.slice QC Qa.length Qs),(.slice QA Qe.length Qt),(.slice QE Qb.length Qu)] 47 (0,0)))∧Q0 (Below w.heap.size w wc))
         case first =>
          have H:=qtl.out;clear qtl
          by_cases c37:qnp=true
          ·
           subst c37
           have H1:(Qd.j4 k4 true ZZ (decide (ZZ<(Qb.length:Int))) Qa Qe Qb)=some r:=by rw [if_pos rfl] at H;exact H
           clear H;have H:=H1;clear H1;have H':=Q0.mk H;clear H;have qf8:wr.cell? ⟨Zd,0,none⟩=some (.slice QC Qa.length Qs):=(Q8 Y1.out 0).trans rfl;have qld:wr.cell? ⟨Zd,1,none⟩=some (.slice QA Qe.length Qt):=(Q8 Y1.out 1).trans rfl;have qle:wr.cell? ⟨Zd,2,none⟩=some (.slice QE Qb.length Qu):=(Q8 Y1.out 2).trans rfl;have qgx:=Q9 Y1.out 0;have qll:=Q9 Y1.out 1;have qlm:=Q9 Y1.out 2
           go_wp2
           go_meet
           case rel=>exact ⟨_,(decide (ZZ<(Qb.length:Int))),(by first|rfl|(simp;done)|(simp [*];done)),H',⟨by have:=HJ1.out;have:=HK2.out;have:=qbg.out;have:=HK4.out;first|omega|exact Nat.le_refl _⟩,⟨by (with_reducible repeat (first|refine Q4 ?_ _|refine Q7 ?_|refine Q2 ?_ _));exact Y1.out⟩,⟨by repeat (first|(with_reducible first|exact HB.out|apply Q3|apply Q1|apply Q6|refine Q5 ?_ Ks.out)|exact HB.out)⟩⟩
          replace c37:=Bool.eq_false_iff.mpr c37;subst c37
          have H1:(Qd.j4 k4 false ZZ false Qa Qe Qb)=some r:=by rw [if_neg (show ¬ (false=true) by decide)] at H;exact H
          clear H;have H:=H1;clear H1;have H':=Q0.mk H;clear H
          go_wp2
          go_meet
          case rel=>exact ⟨_,(false),(by first|rfl|(simp;done)|(simp [*];done)),H',⟨by have:=HJ1.out;have:=HK2.out;have:=qbg.out;have:=HK4.out;first|omega|exact Nat.le_refl _⟩,⟨by (with_reducible repeat (first|refine Q4 ?_ _|refine Q7 ?_|refine Q2 ?_ _));exact Y1.out⟩,⟨by repeat (first|(with_reducible first|exact HB.out|apply Q3|apply Q1|apply Q6|refine Q5 ?_ Ks.out)|exact HB.out)⟩⟩
         case rest =>
          clear qtl;(try clear c2);(try clear p2);(try clear c3);(try clear c5);(try clear c5b0);(try clear c5b1);(try clear p6);(try clear c7);(try clear c8);(try clear c8b0);(try clear c8b1);(try clear c8b2);(try clear c9);(try clear p9);(try clear q9);(try clear hx9);(try clear c22);(try clear c24);(try clear c25);(try clear c25b0);(try clear c26);(try clear c26b0);(try clear c28);(try clear c29);(try clear c29b0);(try clear c30);(try clear c37);(try clear ZI);(try clear ZJ);(try clear ZP);(try clear Ju);(try clear Jv);(try clear JA);(try clear K0);(try clear K1);(try clear K2);(try clear Gu);(try clear Gv);(try clear Ka);(try clear Oh);(try clear Oi);(try clear Oj);(try clear Gw);(try clear Gx);(try clear Gy);(try clear WP);(try clear WQ);(try clear WR);(try clear OX);(try clear OY);(try clear OZ);(try clear qfZ);(try clear qf0);(try clear qf1);(try clear qf2);(try clear qf3);(try clear qf4);(try clear qf5);(try clear qf6);(try clear qf7);(try clear qf8);(try clear qld);(try clear qle);(try clear ZK);(try clear ZL);(try clear ZQ);(try clear Jw);(try clear Jx);(try clear JC);(try clear Ke);(try clear Kf);(try clear Kg);(try clear Gz);(try clear GA);(try clear Kh);(try clear Ol);(try clear Om);(try clear On);(try clear GC);(try clear GD);(try clear GE);(try clear WX);(try clear WY);(try clear WZ);(try clear U0);(try clear U1);(try clear U2);(try clear qgo);(try clear qgp);(try clear qgq);(try clear qgr);(try clear qgs);(try clear qgt);(try clear qgu);(try clear qgv);(try clear qgw);(try clear qgx);(try clear qll);(try clear qlm);(try clear U3);(try clear U4);(try clear U5);(try clear U6);(try clear U7);(try clear qar);(try clear p2);(try clear p6);(try clear p9);(try clear qeT);(try clear qmZ);(try clear q9);(try clear qeV);(try clear qm0);obtain ⟨kq,qhp,rfl,HA,qhC,Y1,HB⟩:=hcut
          cases kq with
          | zero=>exact absurd HA.out (by simp [Qd.j4])
          | succ qt9 =>
           have H:=HA.out;clear HA;simp only [Qd.j4] at H
           by_cases c39:qhp=true
           ·
            subst c39
            have H1:(if 0≤ZZ then (if ZZ<(Qb.length:Int) then (Qd.l2 qt9 (((Qq Qb ZZ).length:Int)==(Qa.length:Int)) ZZ 0 Qa Qe Qb) else (none)) else (none))=some r:=by rw [if_pos rfl] at H;exact H
            clear H;have H:=H1;clear H1
            by_cases c40:0≤ZZ
            ·
             rw [if_pos c40] at H;have c40b0:decide (0≤ZZ)=true:=decide_eq_true c40;clear c40
             by_cases c41:ZZ<(Qb.length:Int)
             ·
              rw [if_pos c41] at H;have c41b0:decide (ZZ<(Qb.length:Int))=true:=decide_eq_true c41;clear c41;have H':=Q0.mk H;clear H
              try go_wp2
              have n0_:=Q0.mk (Q7 Y1.out);have n1_:=Q0.mk (Q6 HB.out);clear Y1 HB;have Y1:=n0_;have HB:=n1_;clear n0_ n1_;have qrH:0≤(ZZ:Int):=of_decide_eq_true (by first|(with_reducible assumption)|assumption);have qrP:ZZ<(Qb.length:Int):=of_decide_eq_true (by first|(with_reducible assumption)|assumption);obtain ⟨Un,qs2,qts,qEW,qas,qlX,qlC⟩:=XB Z6.out ZZ qrH qrP;have ql9:=qas;cases qEW;replace qas:=(HB.out.cell (World.block_lt_of_cell? w _ qas)).trans qas;have qpI:=Q0.mk qlC;have qyp:=Q0.mk qlX;clear qlC qlX;replace qrH:=eq_true qrH;replace qrP:=eq_true qrP;refine Xp (n:=11) (S:=fun w'=>w'.cell? ⟨Zd,0,none⟩=some (.slice QC Qa.length Qs)∧w'.cell? ⟨Zd,1,none⟩=some (.slice QA Qe.length Qt)∧w'.cell? ⟨Zd,2,none⟩=some (.slice (some Un) Qb.length Qu)∧w'.cell? (Un.add (ZZ).toNat)=some (.slice qs2 (Qq Qb ZZ).length qts)) (ds:=[]) #[false,false,false,false,false,false,false,false,false,false,false] (by kernel_rfl) rfl rfl ⟨(Q8 Y1.out 0).trans rfl,(Q8 Y1.out 1).trans rfl,(Q8 Y1.out 2).trans rfl,((HB.out.cell (World.block_lt_of_cell? w _ ql9)).trans ql9)⟩ (fun hHeld => ?_);refine Oc Qd.tab9 Qd.bits9 (fun HT_ HW_ => ?_)
              generalize wc.drew=w42 at Y1 HB qpI qas hHeld ⊢
              refine Yr (i:=0) (N:=some 65) (v:=?_) (a':=?_) #[true,false,false,false,false,false,false,false,false,false,false] rfl rfl (Ya HT_.out (by kernel_rfl)) (fun _ _ _ h=>h) (Or.inl ⟨by rfl,?_⟩) ?_ ?_
              rotate_left
              ·
               intro w'
               go_simp
               with_reducible rfl
              rotate_left
              ·
               simp only [Act.put,List.setIfInBounds_toArray,List.set_cons_zero,List.set_cons_succ,QK,QP]
               rfl
              refine Yr (i:=2) (N:=some 67) (v:=?_) (a':=?_) #[true,false,true,false,false,false,false,false,false,false,false] rfl rfl (Ya HT_.out (by kernel_rfl)) (fun _ _ _ h=>h) (Or.inl ⟨by rfl,?_⟩) ?_ ?_
              rotate_left
              ·
               intro w'
               go_simp
               with_reducible rfl
              rotate_left
              ·
               simp only [Act.put,List.setIfInBounds_toArray,List.set_cons_zero,List.set_cons_succ,QK,QP]
               rfl
              refine Yr (i:=6) (N:=some 71) (v:=?_) (a':=?_) #[true,false,true,false,false,false,true,false,false,false,false] rfl rfl (Ya HT_.out (by kernel_rfl)) (fun _ _ _ h=>h) (Or.inl ⟨by rfl,?_⟩) ?_ ?_
              rotate_left
              ·
               intro w'
               go_simp
               with_reducible rfl
              rotate_left
              ·
               simp only [Act.put,List.setIfInBounds_toArray,List.set_cons_zero,List.set_cons_succ,QK,QP]
               rfl
              refine JZ (i:=1) (N:=some 66) (v:=?_) (a':=?_) #[true,true,true,false,false,false,true,false,false,false,false] rfl rfl (Z9 HT_.out HW_.out (by kernel_rfl)) (fun _ _ _ h=>h) (Or.inl ⟨by rfl,?_⟩) hHeld ?_ ?_
              rotate_left
              ·
               rintro w' ⟨s0,s1,s2,s3⟩
               go_simp
               with_reducible rfl
              rotate_left
              ·
               simp only [Act.put,List.setIfInBounds_toArray,List.set_cons_zero,List.set_cons_succ,QK,QP]
               rfl
              refine Yr (i:=3) (N:=some 68) (v:=?_) (a':=?_) #[true,true,true,true,false,false,true,false,false,false,false] rfl rfl (Ya HT_.out (by kernel_rfl)) (fun _ _ _ h=>h) (Or.inl ⟨by rfl,?_⟩) ?_ ?_
              rotate_left
              ·
               intro w'
               go_simp
               with_reducible rfl
              rotate_left
              ·
               simp only [Act.put,List.setIfInBounds_toArray,List.set_cons_zero,List.set_cons_succ,QK,QP]
               rfl
              refine JZ (i:=4) (N:=some 69) (v:=?_) (a':=?_) #[true,true,true,true,true,false,true,false,false,false,false] rfl rfl (Z9 HT_.out HW_.out (by kernel_rfl)) (fun _ _ _ h=>h) (Or.inl ⟨by rfl,?_⟩) hHeld ?_ ?_
              rotate_left
              ·
               rintro w' ⟨s0,s1,s2,s3⟩
               go_simp
               with_reducible rfl
              rotate_left
              ·
               simp only [Act.put,List.setIfInBounds_toArray,List.set_cons_zero,List.set_cons_succ,QK,QP]
               rfl
              refine Yr (i:=5) (N:=some 70) (v:=?_) (a':=?_) #[true,true,true,true,true,true,true,false,false,false,false] rfl rfl (Ya HT_.out (by kernel_rfl)) (fun _ _ _ h=>h) (Or.inl ⟨by rfl,?_⟩) ?_ ?_
              rotate_left
              ·
               intro w'
               go_simp
               with_reducible rfl
              rotate_left
              ·
               simp only [Act.put,List.setIfInBounds_toArray,List.set_cons_zero,List.set_cons_succ,QK,QP]
               rfl
              refine JZ (i:=7) (N:=some 72) (v:=?_) (a':=?_) #[true,true,true,true,true,true,true,true,false,false,false] rfl rfl (Z9 HT_.out HW_.out (by kernel_rfl)) (fun _ _ _ h=>h) (Or.inl ⟨by rfl,?_⟩) hHeld ?_ ?_
              rotate_left
              ·
               rintro w' ⟨s0,s1,s2,s3⟩
               go_simp
               with_reducible rfl
              rotate_left
              ·
               simp only [Act.put,List.setIfInBounds_toArray,List.set_cons_zero,List.set_cons_succ,QK,QP]
               rfl
              refine Yr (i:=8) (N:=some 73) (v:=?_) (a':=?_) #[true,true,true,true,true,true,true,true,true,false,false] rfl rfl (Ya HT_.out (by kernel_rfl)) (fun _ _ _ h=>h) (Or.inl ⟨by rfl,?_⟩) ?_ ?_
              rotate_left
              ·
               intro w'
               go_simp
               with_reducible rfl
              rotate_left
              ·
               simp only [Act.put,List.setIfInBounds_toArray,List.set_cons_zero,List.set_cons_succ,QK,QP]
               rfl
              refine Yr (i:=9) (N:=some 74) (v:=?_) (a':=?_) #[true,true,true,true,true,true,true,true,true,true,false] rfl rfl (Ya HT_.out (by kernel_rfl)) (fun _ _ _ h=>h) (Or.inl ⟨by rfl,?_⟩) ?_ ?_
              rotate_left
              ·
               intro w'
               go_simp
               with_reducible rfl
              rotate_left
              ·
               simp only [Act.put,List.setIfInBounds_toArray,List.set_cons_zero,List.set_cons_succ,QK,QP]
               rfl
              refine Yr (i:=10) (N:=some 3) (v:=?_) (a':=?_) #[true,true,true,true,true,true,true,true,true,true,true] rfl rfl (Ya HT_.out (by kernel_rfl)) (fun _ _ _ h=>h) (Or.inl ⟨by rfl,?_⟩) ?_ ?_
              rotate_left
              ·
               intro w'
               go_simp
               with_reducible rfl
              rotate_left
              ·
               simp only [Act.put,List.setIfInBounds_toArray,List.set_cons_zero,List.set_cons_succ,QK,QP]
               rfl
              refine qbm (UP HT_.out (by kernel_rfl)) ?_
              try go_wp2
              go_loopg [3,6] qt9 (fun kq v3 v6 w' => ∃ (qr3:Bool) (Gk:Int),v3 = .bool qr3∧v6 = .int .i64 Gk∧Q0 (Qd.l2 kq qr3 ZZ Gk Qa Qe Qb=some r)∧Q0 (kq≤qt9)∧Q0 (w'.heap[Zd]? = some (.cells #[(.slice QC Qa.length Qs),(.slice QA Qe.length Qt),(.slice (some Un) Qb.length Qu)] 47 (0,0)))∧Q0 (Below w.heap.size w w'))
              case atStart=>exact ⟨((((Qq Qb ZZ).length:Int)==(Qa.length:Int))),(0),(by first|rfl|(simp;done)|(simp [*];done)),(by first|rfl|(simp;done)|(simp [*];done)),H',⟨Nat.le_refl _⟩,⟨by (with_reducible repeat (first|refine Q4 ?_ _|refine Q7 ?_|refine Q2 ?_ _));exact Y1.out⟩,⟨by repeat (first|(with_reducible first|exact HB.out|apply Q3|apply Q1|apply Q6|refine Q5 ?_ Ks.out)|exact HB.out)⟩⟩
              case round =>
               clear H';(try clear c2);(try clear p2);(try clear c3);(try clear c4);(try clear c5);(try clear c5b0);(try clear c5b1);(try clear p6);(try clear c7);(try clear c8);(try clear c8b0);(try clear c8b1);(try clear c8b2);(try clear c9);(try clear p9);(try clear q9);(try clear hx9);(try clear c22);(try clear c24);(try clear c25);(try clear c25b0);(try clear c26);(try clear c26b0);(try clear c28);(try clear c29);(try clear c29b0);(try clear c30);(try clear c37);(try clear c39);(try clear c40);(try clear c40b0);(try clear c41);(try clear c41b0);(try clear ZI);(try clear ZJ);(try clear ZP);(try clear Ju);(try clear Jv);(try clear JA);(try clear K0);(try clear K1);(try clear K2);(try clear Gu);(try clear Gv);(try clear Ka);(try clear Oh);(try clear Oi);(try clear Oj);(try clear Gw);(try clear Gx);(try clear Gy);(try clear WP);(try clear WQ);(try clear WR);(try clear OX);(try clear OY);(try clear OZ);(try clear qfZ);(try clear qf0);(try clear qf1);(try clear qf2);(try clear qf3);(try clear qf4);(try clear qf5);(try clear qf6);(try clear qf7);(try clear qf8);(try clear qld);(try clear qle);(try clear ZK);(try clear ZL);(try clear ZQ);(try clear Jw);(try clear Jx);(try clear JC);(try clear Ke);(try clear Kf);(try clear Kg);(try clear Gz);(try clear GA);(try clear Kh);(try clear Ol);(try clear Om);(try clear On);(try clear GC);(try clear GD);(try clear GE);(try clear WX);(try clear WY);(try clear WZ);(try clear U0);(try clear U1);(try clear U2);(try clear qgo);(try clear qgp);(try clear qgq);(try clear qgr);(try clear qgs);(try clear qgt);(try clear qgu);(try clear qgv);(try clear qgw);(try clear qgx);(try clear qll);(try clear qlm);(try clear U3);(try clear U4);(try clear U5);(try clear U6);(try clear U7);(try clear qar);(try clear qas);(try clear p2);(try clear p6);(try clear p9);(try clear qeT);(try clear qmZ);(try clear qrH);(try clear q9);(try clear qeV);(try clear qm0);(try clear qrP);obtain ⟨qr3,Gk,rfl,rfl,HA,HK6,Y1,HB⟩:=hrel
               cases gk with
               | zero=>exact absurd HA.out (by simp [Qd.l2])
               | succ k6 =>
                have H:=HA.out;clear HA;simp only [Qd.l2] at H
                by_cases c43:qr3=true
                ·
                 subst c43
                 have H1:(if Gk<(Qa.length:Int) then (if 0≤ZZ then (if ZZ<(Qb.length:Int) then (if 0≤Gk then (if Gk<((Qq Qb ZZ).length:Int) then ((Qr.f ((QM (Qq Qb ZZ) Gk).length:Int) 1 10).bind fun qnj=>(if qnj=true then (if 0<(Qb.length:Int) then (if 0<((Qq Qb 0).length:Int) then (Qd.l2 k6 (((QM (Qq Qb ZZ) Gk).length:Int)==((QM (Qq Qb 0) 0).length:Int)) ZZ (wrap64 (Gk+1)) Qa Qe Qb) else (none)) else (none)) else (Qd.l2 k6 false ZZ (wrap64 (Gk+1)) Qa Qe Qb))) else (none)) else (none)) else (none)) else (none)) else (Qd.l1 k6 true (wrap64 (ZZ+1)) Qa Qe Qb))=some r:=by rw [if_pos rfl] at H;exact H
                 clear H;have H:=H1;clear H1
                 by_cases c44:Gk<(Qa.length:Int)
                 ·
                  rw [if_pos c44] at H;have c44b0:decide (Gk<(Qa.length:Int))=true:=decide_eq_true c44;clear c44
                  by_cases c45:0≤ZZ
                  ·
                   rw [if_pos c45] at H;have c45b0:decide (0≤ZZ)=true:=decide_eq_true c45;clear c45
                   by_cases c46:ZZ<(Qb.length:Int)
                   ·
                    rw [if_pos c46] at H;have c46b0:decide (ZZ<(Qb.length:Int))=true:=decide_eq_true c46;clear c46
                    by_cases c47:0≤Gk
                    ·
                     rw [if_pos c47] at H;have c47b0:decide (0≤Gk)=true:=decide_eq_true c47;clear c47
                     by_cases c48:Gk<((Qq Qb ZZ).length:Int)
                     ·
                      rw [if_pos c48] at H;have c48b0:decide (Gk<((Qq Qb ZZ).length:Int))=true:=decide_eq_true c48;clear c48;replace H:=Option.bind_eq_some_iff.mp H;obtain ⟨qnj,qve,H⟩:=H;replace H:(if qnj=true then (if 0<(Qb.length:Int) then (if 0<((Qq Qb 0).length:Int) then (Qd.l2 k6 (((QM (Qq Qb ZZ) Gk).length:Int)==((QM (Qq Qb 0) 0).length:Int)) ZZ (wrap64 (Gk+1)) Qa Qe Qb) else (none)) else (none)) else (Qd.l2 k6 false ZZ (wrap64 (Gk+1)) Qa Qe Qb))=some r:=H;have A49:=Q0.mk qve;clear qve
                      by_cases c50:qnj=true
                      ·
                       subst c50
                       have H1:(if 0<(Qb.length:Int) then (if 0<((Qq Qb 0).length:Int) then (Qd.l2 k6 (((QM (Qq Qb ZZ) Gk).length:Int)==((QM (Qq Qb 0) 0).length:Int)) ZZ (wrap64 (Gk+1)) Qa Qe Qb) else (none)) else (none))=some r:=by rw [if_pos rfl] at H;exact H
                       clear H;have H:=H1;clear H1
                       by_cases c51:0<(Qb.length:Int)
                       ·
                        rw [if_pos c51] at H;have c51b0:decide (0<(Qb.length:Int))=true:=decide_eq_true c51;have c51b1:decide (0<Qb.length)=true:=decide_eq_true (by omega);clear c51
                        by_cases c52:0<((Qq Qb 0).length:Int)
                        ·
                         rw [if_pos c52] at H;have c52b0:decide (0<((Qq Qb 0).length:Int))=true:=decide_eq_true c52;have c52b1:decide (0<(Qq Qb 0).length)=true:=decide_eq_true (by omega);clear c52;have H':=Q0.mk H;clear H;have qzi:wr.cell? ⟨Zd,0,none⟩=some (.slice QC Qa.length Qs):=(Q8 Y1.out 0).trans rfl;have qzj:wr.cell? ⟨Zd,1,none⟩=some (.slice QA Qe.length Qt):=(Q8 Y1.out 1).trans rfl;have qzk:wr.cell? ⟨Zd,2,none⟩=some (.slice (some Un) Qb.length Qu):=(Q8 Y1.out 2).trans rfl;have qBp:=Q9 Y1.out 0;have qBq:=Q9 Y1.out 1;have qBr:=Q9 Y1.out 2
                         try go_wp2
                         have n0_:=Q0.mk (Q7 Y1.out);have n1_:=Q0.mk (Q6 HB.out);clear Y1 HB;have Y1:=n0_;have HB:=n1_;clear n0_ n1_;have qj2:0≤(ZZ:Int):=of_decide_eq_true (by first|(with_reducible assumption)|assumption);have qkk:ZZ<(Qb.length:Int):=of_decide_eq_true (by first|(with_reducible assumption)|assumption);obtain ⟨qnZ,qs3,qfK,qtN,KT,qb1,qbN⟩:=XB Z6.out ZZ qj2 qkk;have Uv:=KT;obtain rfl:Un=qnZ:=(by injection qtN);replace KT:=(HB.out.cell (World.block_lt_of_cell? w _ KT)).trans KT;have qbi:=Q0.mk qbN;have qpv:=Q0.mk qb1;clear qbN qb1;replace qj2:=eq_true qj2;replace qkk:=eq_true qkk;have qj3:0≤(Gk:Int):=of_decide_eq_true (by first|(with_reducible assumption)|assumption);have qkl:Gk<((Qq Qb ZZ).length:Int):=of_decide_eq_true (by first|(with_reducible assumption)|assumption);obtain ⟨qek,qjf,qjt,qtO,Ow,qb2,qbO⟩:=XA qbi.out Gk qj3 qkl;have Uw:=Ow;cases qtO;replace Ow:=(HB.out.cell (World.block_lt_of_cell? w _ Ow)).trans Ow;have qfF:=Q0.mk qbO;have qpw:=Q0.mk qb2;clear qbO qb2;replace qj3:=eq_true qj3;replace qkl:=eq_true qkl;have quj:0≤(ZZ:Int):=of_decide_eq_true (by first|(with_reducible assumption)|assumption);have quy:ZZ<(Qb.length:Int):=of_decide_eq_true (by first|(with_reducible assumption)|assumption);obtain ⟨qv1,qEs,qEH,qEX,qat,qlY,qlD⟩:=XB Z6.out ZZ quj quy;have qdO:=qat;obtain rfl:Un=qv1:=(by injection qEX);replace qat:=(HB.out.cell (World.block_lt_of_cell? w _ qat)).trans qat;have qkZ:=Q0.mk qlD;have qyq:=Q0.mk qlY;clear qlD qlY;replace quj:=eq_true quj;replace quy:=eq_true quy;have ea_:=Option.some.inj (KT.symm.trans qat)
                         injection ea_ with ea_ en_ ec_
                         subst ea_;subst ec_;clear en_;have quk:0≤(Gk:Int):=of_decide_eq_true (by first|(with_reducible assumption)|assumption);have quz:Gk<((Qq Qb ZZ).length:Int):=of_decide_eq_true (by first|(with_reducible assumption)|assumption);obtain ⟨qGC,qs4,qtt,qEY,qcb,qlZ,qlE⟩:=XA qkZ.out Gk quk quz;have qdP:=qcb;cases qEY;replace qcb:=(HB.out.cell (World.block_lt_of_cell? w _ qcb)).trans qcb;have qpJ:=Q0.mk qlE;have qyr:=Q0.mk qlZ;clear qlE qlZ;replace quk:=eq_true quk;replace quz:=eq_true quz;have qul:0≤(0:Int):=(by omega);have quA:0<(Qb.length:Int):=of_decide_eq_true (by first|(with_reducible assumption)|assumption);obtain ⟨qv2,qEt,qtu,qEZ,Xe,ql0,qlF⟩:=XB Z6.out 0 qul quA;have X3:=Xe
                         (try rw [show ((0:Int)).toNat=0 from rfl] at X3)
                         (try rw [show 0*1=0 from rfl] at X3)
                         (try rw [Addr.add_zero'] at X3)
                         obtain rfl:Un=qv2:=(by injection qEZ);have qIw:(0<Qb.length)=True:=eq_true (by omega)
                         (try rw [show ((0:Int)).toNat=0 from rfl] at Xe)
                         (try rw [Addr.add_zero'] at Xe)
                         replace Xe:=(HB.out.cell (World.block_lt_of_cell? w _ Xe)).trans Xe;have qk0:=Q0.mk qlF;have qys:=Q0.mk ql0;clear qlF ql0;replace qul:=eq_true qul;replace quA:=eq_true quA;have qum:0≤(0:Int):=(by omega);have quB:0<((Qq Qb 0).length:Int):=of_decide_eq_true (by first|(with_reducible assumption)|assumption);obtain ⟨qsK,qs5,qtv,qE0,Xf,ql1,qlG⟩:=XA qk0.out 0 qum quB;have X4:=Xf
                         (try rw [show ((0:Int)).toNat=0 from rfl] at X4)
                         (try rw [show 0*1=0 from rfl] at X4)
                         (try rw [Addr.add_zero'] at X4)
                         cases qE0;have qIx:(0<(Qq Qb 0).length)=True:=eq_true (by omega)
                         (try rw [show ((0:Int)).toNat=0 from rfl] at Xf)
                         (try rw [Addr.add_zero'] at Xf)
                         replace Xf:=(HB.out.cell (World.block_lt_of_cell? w _ Xf)).trans Xf;have qpK:=Q0.mk qlG;have qyt:=Q0.mk ql1;clear qlG ql1;replace qum:=eq_true qum;replace quB:=eq_true quB;refine Xp (n:=30) (S:=fun w'=>w'.cell? ⟨Zd,0,none⟩=some (.slice QC Qa.length Qs)∧w'.cell? ⟨Zd,1,none⟩=some (.slice QA Qe.length Qt)∧w'.cell? ⟨Zd,2,none⟩=some (.slice (some Un) Qb.length Qu)∧w'.cell? (Un.add (ZZ).toNat)=some (.slice (some qek) (Qq Qb ZZ).length qfK)∧w'.cell? (qek.add (Gk).toNat)=some (.slice qjf (QM (Qq Qb ZZ) Gk).length qjt)∧w'.cell? (Un.add (ZZ).toNat)=some (.slice (some qek) (Qq Qb ZZ).length qfK)∧w'.cell? (qek.add (Gk).toNat)=some (.slice qs4 (QM (Qq Qb ZZ) Gk).length qtt)∧w'.cell? Un=some (.slice (some qsK) (Qq Qb 0).length qtu)∧w'.cell? qsK=some (.slice qs5 (QM (Qq Qb 0) 0).length qtv)) (ds:=[]) #[false,false,false,false,false,false,false,false,false,false,false,false,false,false,false,false,false,false,false,false,false,false,false,false,false,false,false,false,false,false] (by kernel_rfl) rfl rfl ⟨(Q8 Y1.out 0).trans rfl,(Q8 Y1.out 1).trans rfl,(Q8 Y1.out 2).trans rfl,((HB.out.cell (World.block_lt_of_cell? w _ Uv)).trans Uv),((HB.out.cell (World.block_lt_of_cell? w _ Uw)).trans Uw),((HB.out.cell (World.block_lt_of_cell? w _ qdO)).trans qdO),((HB.out.cell (World.block_lt_of_cell? w _ qdP)).trans qdP),((HB.out.cell (World.block_lt_of_cell? w _ X3)).trans X3),((HB.out.cell (World.block_lt_of_cell? w _ X4)).trans X4)⟩ (fun hHeld => ?_);refine Oc Qd.tab13 Qd.bits13 (fun HT_ HW_ => ?_)
                         generalize wr.drew=w54 at Y1 HB qbi qfF qkZ qpJ qk0 qpK KT Ow qat qcb Xe Xf hHeld ⊢
                         refine Yr (i:=0) (N:=some 85) (v:=?_) (a':=?_) #[true,false,false,false,false,false,false,false,false,false,false,false,false,false,false,false,false,false,false,false,false,false,false,false,false,false,false,false,false,false] rfl rfl (Ya HT_.out (by kernel_rfl)) (fun _ _ _ h=>h) (Or.inl ⟨by rfl,?_⟩) ?_ ?_
                         rotate_left
                         ·
                          intro w'
                          go_simp
                          with_reducible rfl
                         rotate_left
                         ·
                          simp only [Act.put,List.setIfInBounds_toArray,List.set_cons_zero,List.set_cons_succ,QK,QP]
                          rfl
                         refine Yr (i:=2) (N:=some 87) (v:=?_) (a':=?_) #[true,false,true,false,false,false,false,false,false,false,false,false,false,false,false,false,false,false,false,false,false,false,false,false,false,false,false,false,false,false] rfl rfl (Ya HT_.out (by kernel_rfl)) (fun _ _ _ h=>h) (Or.inl ⟨by rfl,?_⟩) ?_ ?_
                         rotate_left
                         ·
                          intro w'
                          go_simp
                          with_reducible rfl
                         rotate_left
                         ·
                          simp only [Act.put,List.setIfInBounds_toArray,List.set_cons_zero,List.set_cons_succ,QK,QP]
                          rfl
                         refine Yr (i:=5) (N:=some 90) (v:=?_) (a':=?_) #[true,false,true,false,false,true,false,false,false,false,false,false,false,false,false,false,false,false,false,false,false,false,false,false,false,false,false,false,false,false] rfl rfl (Ya HT_.out (by kernel_rfl)) (fun _ _ _ h=>h) (Or.inl ⟨by rfl,?_⟩) ?_ ?_
                         rotate_left
                         ·
                          intro w'
                          go_simp
                          with_reducible rfl
                         rotate_left
                         ·
                          simp only [Act.put,List.setIfInBounds_toArray,List.set_cons_zero,List.set_cons_succ,QK,QP]
                          rfl
                         refine JZ (i:=1) (N:=some 86) (v:=?_) (a':=?_) #[true,true,true,false,false,true,false,false,false,false,false,false,false,false,false,false,false,false,false,false,false,false,false,false,false,false,false,false,false,false] rfl rfl (Z9 HT_.out HW_.out (by kernel_rfl)) (fun _ _ _ h=>h) (Or.inl ⟨by rfl,?_⟩) hHeld ?_ ?_
                         rotate_left
                         ·
                          rintro w' ⟨s0,s1,s2,s3,s4,s5,s6,s7,s8⟩
                          go_simp
                          with_reducible rfl
                         rotate_left
                         ·
                          simp only [Act.put,List.setIfInBounds_toArray,List.set_cons_zero,List.set_cons_succ,QK,QP]
                          rfl
                         refine Yr (i:=3) (N:=some 88) (v:=?_) (a':=?_) #[true,true,true,true,false,true,false,false,false,false,false,false,false,false,false,false,false,false,false,false,false,false,false,false,false,false,false,false,false,false] rfl rfl (Ya HT_.out (by kernel_rfl)) (fun _ _ _ h=>h) (Or.inl ⟨by rfl,?_⟩) ?_ ?_
                         rotate_left
                         ·
                          intro w'
                          go_simp
                          with_reducible rfl
                         rotate_left
                         ·
                          simp only [Act.put,List.setIfInBounds_toArray,List.set_cons_zero,List.set_cons_succ,QK,QP]
                          rfl
                         refine JZ (i:=4) (N:=some 89) (v:=?_) (a':=?_) #[true,true,true,true,true,true,false,false,false,false,false,false,false,false,false,false,false,false,false,false,false,false,false,false,false,false,false,false,false,false] rfl rfl (Z9 HT_.out HW_.out (by kernel_rfl)) (fun _ _ _ h=>h) (Or.inl ⟨by rfl,?_⟩) hHeld ?_ ?_
                         rotate_left
                         ·
                          rintro w' ⟨s0,s1,s2,s3,s4,s5,s6,s7,s8⟩
                          go_simp
                          with_reducible rfl
                         rotate_left
                         ·
                          simp only [Act.put,List.setIfInBounds_toArray,List.set_cons_zero,List.set_cons_succ,QK,QP]
                          rfl
                         refine Yr (i:=6) (N:=some 91) (v:=?_) (a':=?_) #[true,true,true,true,true,true,true,false,false,false,false,false,false,false,false,false,false,false,false,false,false,false,false,false,false,false,false,false,false,false] rfl rfl (Ya HT_.out (by kernel_rfl)) (fun _ _ _ h=>h) (Or.inl ⟨by rfl,?_⟩) ?_ ?_
                         rotate_left
                         ·
                          intro w'
                          go_simp
                          with_reducible rfl
                         rotate_left
                         ·
                          simp only [Act.put,List.setIfInBounds_toArray,List.set_cons_zero,List.set_cons_succ,QK,QP]
                          rfl
                         refine JZ (i:=7) (N:=some 92) (v:=?_) (a':=?_) #[true,true,true,true,true,true,true,true,false,false,false,false,false,false,false,false,false,false,false,false,false,false,false,false,false,false,false,false,false,false] rfl rfl (Z9 HT_.out HW_.out (by kernel_rfl)) (fun _ _ _ h=>h) (Or.inl ⟨by rfl,?_⟩) hHeld ?_ ?_
                         rotate_left
                         ·
                          rintro w' ⟨s0,s1,s2,s3,s4,s5,s6,s7,s8⟩
                          go_simp
                          with_reducible rfl
                         rotate_left
                         ·
                          simp only [Act.put,List.setIfInBounds_toArray,List.set_cons_zero,List.set_cons_succ,QK,QP]
                          rfl
                         refine Yr (i:=8) (N:=some 93) (v:=?_) (a':=?_) #[true,true,true,true,true,true,true,true,true,false,false,false,false,false,false,false,false,false,false,false,false,false,false,false,false,false,false,false,false,false] rfl rfl (Ya HT_.out (by kernel_rfl)) (fun _ _ _ h=>h) (Or.inl ⟨by rfl,?_⟩) ?_ ?_
                         rotate_left
                         ·
                          intro w'
                          go_simp
                          with_reducible rfl
                         rotate_left
                         ·
                          simp only [Act.put,List.setIfInBounds_toArray,List.set_cons_zero,List.set_cons_succ,QK,QP]
                          rfl
                         refine one_ (i:=9) (N:=some 94) #[true,true,true,true,true,true,true,true,true,true,false,false,false,false,false,false,false,false,false,false,false,false,false,false,false,false,false,false,false,false] rfl rfl (O5 HT_.out (by kernel_rfl)) (by decide) (fun K hK => ?_);refine qaK Try.func34 (by kernel_rfl) rfl #[.int .i64 ((QM (Qq Qb ZZ) Gk).length:Int),.int .i64 1,.int .i64 10] (by rfl) rfl rfl (by (try simp only [List.map_toArray,List.map_cons,List.map_nil]);first|done|rfl|(simp only [List.length_drop,List.length_take];rfl)) ?_
                         with_reducible refine (Qr.calls ((QM (Qq Qb ZZ) Gk).length:Int) 1 10 true _ A49.out).mono ?_
                         rintro e w' ⟨rfl,⟨nd,rfl⟩⟩;refine ⟨_,rfl,?_⟩;refine hK.out _ _ ⟨(Q8 Y1.out 0).trans rfl,(Q8 Y1.out 1).trans rfl,(Q8 Y1.out 2).trans rfl,((HB.out.cell (World.block_lt_of_cell? w _ Uv)).trans Uv),((HB.out.cell (World.block_lt_of_cell? w _ Uw)).trans Uw),((HB.out.cell (World.block_lt_of_cell? w _ qdO)).trans qdO),((HB.out.cell (World.block_lt_of_cell? w _ qdP)).trans qdP),((HB.out.cell (World.block_lt_of_cell? w _ X3)).trans X3),((HB.out.cell (World.block_lt_of_cell? w _ X4)).trans X4)⟩ (fun hHeld => ?_);clear hK K;refine Kk (a':=?_) ?_ ?_
                         rotate_left
                         ·
                          show Act.put _ (some 94) _=_
                          simp only [Act.put,List.setIfInBounds_toArray,List.set_cons_zero,List.set_cons_succ,QK,QP]
                          rfl
                         refine Yr (i:=10) (N:=some 95) (v:=?_) (a':=?_) #[true,true,true,true,true,true,true,true,true,true,true,false,false,false,false,false,false,false,false,false,false,false,false,false,false,false,false,false,false,false] rfl rfl (Ya HT_.out (by kernel_rfl)) (fun _ _ _ h=>h) (Or.inl ⟨by rfl,?_⟩) ?_ ?_
                         rotate_left
                         ·
                          intro w'
                          go_simp
                          with_reducible rfl
                         rotate_left
                         ·
                          simp only [Act.put,List.setIfInBounds_toArray,List.set_cons_zero,List.set_cons_succ,QK,QP]
                          rfl
                         refine Yr (i:=11) (N:=some 96) (v:=?_) (a':=?_) #[true,true,true,true,true,true,true,true,true,true,true,true,false,false,false,false,false,false,false,false,false,false,false,false,false,false,false,false,false,false] rfl rfl (Ya HT_.out (by kernel_rfl)) (fun _ _ _ h=>h) (Or.inl ⟨by rfl,?_⟩) ?_ ?_
                         rotate_left
                         ·
                          intro w'
                          go_simp
                          with_reducible rfl
                         rotate_left
                         ·
                          simp only [Act.put,List.setIfInBounds_toArray,List.set_cons_zero,List.set_cons_succ,QK,QP]
                          rfl
                         refine Yr (i:=13) (N:=some 98) (v:=?_) (a':=?_) #[true,true,true,true,true,true,true,true,true,true,true,true,false,true,false,false,false,false,false,false,false,false,false,false,false,false,false,false,false,false] rfl rfl (Ya HT_.out (by kernel_rfl)) (fun _ _ _ h=>h) (Or.inl ⟨by rfl,?_⟩) ?_ ?_
                         rotate_left
                         ·
                          intro w'
                          go_simp
                          with_reducible rfl
                         rotate_left
                         ·
                          simp only [Act.put,List.setIfInBounds_toArray,List.set_cons_zero,List.set_cons_succ,QK,QP]
                          rfl
                         refine Yr (i:=16) (N:=some 101) (v:=?_) (a':=?_) #[true,true,true,true,true,true,true,true,true,true,true,true,false,true,false,false,true,false,false,false,false,false,false,false,false,false,false,false,false,false] rfl rfl (Ya HT_.out (by kernel_rfl)) (fun _ _ _ h=>h) (Or.inl ⟨by rfl,?_⟩) ?_ ?_
                         rotate_left
                         ·
                          intro w'
                          go_simp
                          with_reducible rfl
                         rotate_left
                         ·
                          simp only [Act.put,List.setIfInBounds_toArray,List.set_cons_zero,List.set_cons_succ,QK,QP]
                          rfl
                         refine Yr (i:=20) (N:=some 105) (v:=?_) (a':=?_) #[true,true,true,true,true,true,true,true,true,true,true,true,false,true,false,false,true,false,false,false,true,false,false,false,false,false,false,false,false,false] rfl rfl (Ya HT_.out (by kernel_rfl)) (fun _ _ _ h=>h) (Or.inl ⟨by rfl,?_⟩) ?_ ?_
                         rotate_left
                         ·
                          intro w'
                          go_simp
                          with_reducible rfl
                         rotate_left
                         ·
                          simp only [Act.put,List.setIfInBounds_toArray,List.set_cons_zero,List.set_cons_succ,QK,QP]
                          rfl
                         refine JZ (i:=12) (N:=some 97) (v:=?_) (a':=?_) #[true,true,true,true,true,true,true,true,true,true,true,true,true,true,false,false,true,false,false,false,true,false,false,false,false,false,false,false,false,false] rfl rfl (Z9 HT_.out HW_.out (by kernel_rfl)) (fun _ _ _ h=>h) (Or.inl ⟨by rfl,?_⟩) hHeld ?_ ?_
                         rotate_left
                         ·
                          rintro w' ⟨s0,s1,s2,s3,s4,s5,s6,s7,s8⟩
                          go_simp
                          with_reducible rfl
                         rotate_left
                         ·
                          simp only [Act.put,List.setIfInBounds_toArray,List.set_cons_zero,List.set_cons_succ,QK,QP]
                          rfl
                         refine Yr (i:=14) (N:=some 99) (v:=?_) (a':=?_) #[true,true,true,true,true,true,true,true,true,true,true,true,true,true,true,false,true,false,false,false,true,false,false,false,false,false,false,false,false,false] rfl rfl (Ya HT_.out (by kernel_rfl)) (fun _ _ _ h=>h) (Or.inl ⟨by rfl,?_⟩) ?_ ?_
                         rotate_left
                         ·
                          intro w'
                          go_simp
                          with_reducible rfl
                         rotate_left
                         ·
                          simp only [Act.put,List.setIfInBounds_toArray,List.set_cons_zero,List.set_cons_succ,QK,QP]
                          rfl
                         refine JZ (i:=15) (N:=some 100) (v:=?_) (a':=?_) #[true,true,true,true,true,true,true,true,true,true,true,true,true,true,true,true,true,false,false,false,true,false,false,false,false,false,false,false,false,false] rfl rfl (Z9 HT_.out HW_.out (by kernel_rfl)) (fun _ _ _ h=>h) (Or.inl ⟨by rfl,?_⟩) hHeld ?_ ?_
                         rotate_left
                         ·
                          rintro w' ⟨s0,s1,s2,s3,s4,s5,s6,s7,s8⟩
                          go_simp
                          with_reducible rfl
                         rotate_left
                         ·
                          simp only [Act.put,List.setIfInBounds_toArray,List.set_cons_zero,List.set_cons_succ,QK,QP]
                          rfl
                         refine Yr (i:=17) (N:=some 102) (v:=?_) (a':=?_) #[true,true,true,true,true,true,true,true,true,true,true,true,true,true,true,true,true,true,false,false,true,false,false,false,false,false,false,false,false,false] rfl rfl (Ya HT_.out (by kernel_rfl)) (fun _ _ _ h=>h) (Or.inl ⟨by rfl,?_⟩) ?_ ?_
                         rotate_left
                         ·
                          intro w'
                          go_simp
                          with_reducible rfl
                         rotate_left
                         ·
                          simp only [Act.put,List.setIfInBounds_toArray,List.set_cons_zero,List.set_cons_succ,QK,QP]
                          rfl
                         refine JZ (i:=18) (N:=some 103) (v:=?_) (a':=?_) #[true,true,true,true,true,true,true,true,true,true,true,true,true,true,true,true,true,true,true,false,true,false,false,false,false,false,false,false,false,false] rfl rfl (Z9 HT_.out HW_.out (by kernel_rfl)) (fun _ _ _ h=>h) (Or.inl ⟨by rfl,?_⟩) hHeld ?_ ?_
                         rotate_left
                         ·
                          rintro w' ⟨s0,s1,s2,s3,s4,s5,s6,s7,s8⟩
                          go_simp
                          with_reducible rfl
                         rotate_left
                         ·
                          simp only [Act.put,List.setIfInBounds_toArray,List.set_cons_zero,List.set_cons_succ,QK,QP]
                          rfl
                         refine Yr (i:=19) (N:=some 104) (v:=?_) (a':=?_) #[true,true,true,true,true,true,true,true,true,true,true,true,true,true,true,true,true,true,true,true,true,false,false,false,false,false,false,false,false,false] rfl rfl (Ya HT_.out (by kernel_rfl)) (fun _ _ _ h=>h) (Or.inl ⟨by rfl,?_⟩) ?_ ?_
                         rotate_left
                         ·
                          intro w'
                          go_simp
                          with_reducible rfl
                         rotate_left
                         ·
                          simp only [Act.put,List.setIfInBounds_toArray,List.set_cons_zero,List.set_cons_succ,QK,QP]
                          rfl
                         refine JZ (i:=21) (N:=some 106) (v:=?_) (a':=?_) #[true,true,true,true,true,true,true,true,true,true,true,true,true,true,true,true,true,true,true,true,true,true,false,false,false,false,false,false,false,false] rfl rfl (Z9 HT_.out HW_.out (by kernel_rfl)) (fun _ _ _ h=>h) (Or.inl ⟨by rfl,?_⟩) hHeld ?_ ?_
                         rotate_left
                         ·
                          rintro w' ⟨s0,s1,s2,s3,s4,s5,s6,s7,s8⟩
                          go_simp
                          with_reducible rfl
                         rotate_left
                         ·
                          simp only [Act.put,List.setIfInBounds_toArray,List.set_cons_zero,List.set_cons_succ,QK,QP]
                          rfl
                         refine Yr (i:=22) (N:=some 107) (v:=?_) (a':=?_) #[true,true,true,true,true,true,true,true,true,true,true,true,true,true,true,true,true,true,true,true,true,true,true,false,false,false,false,false,false,false] rfl rfl (Ya HT_.out (by kernel_rfl)) (fun _ _ _ h=>h) (Or.inl ⟨by rfl,?_⟩) ?_ ?_
                         rotate_left
                         ·
                          intro w'
                          go_simp
                          with_reducible rfl
                         rotate_left
                         ·
                          simp only [Act.put,List.setIfInBounds_toArray,List.set_cons_zero,List.set_cons_succ,QK,QP]
                          rfl
                         refine JZ (i:=23) (N:=some 108) (v:=?_) (a':=?_) #[true,true,true,true,true,true,true,true,true,true,true,true,true,true,true,true,true,true,true,true,true,true,true,true,false,false,false,false,false,false] rfl rfl (Z9 HT_.out HW_.out (by kernel_rfl)) (fun _ _ _ h=>h) (Or.inl ⟨by rfl,?_⟩) hHeld ?_ ?_
                         rotate_left
                         ·
                          rintro w' ⟨s0,s1,s2,s3,s4,s5,s6,s7,s8⟩
                          go_simp
                          with_reducible rfl
                         rotate_left
                         ·
                          simp only [Act.put,List.setIfInBounds_toArray,List.set_cons_zero,List.set_cons_succ,QK,QP]
                          rfl
                         refine Yr (i:=24) (N:=some 109) (v:=?_) (a':=?_) #[true,true,true,true,true,true,true,true,true,true,true,true,true,true,true,true,true,true,true,true,true,true,true,true,true,false,false,false,false,false] rfl rfl (Ya HT_.out (by kernel_rfl)) (fun _ _ _ h=>h) (Or.inl ⟨by rfl,?_⟩) ?_ ?_
                         rotate_left
                         ·
                          intro w'
                          go_simp
                          with_reducible rfl
                         rotate_left
                         ·
                          simp only [Act.put,List.setIfInBounds_toArray,List.set_cons_zero,List.set_cons_succ,QK,QP]
                          rfl
                         refine JZ (i:=25) (N:=some 110) (v:=?_) (a':=?_) #[true,true,true,true,true,true,true,true,true,true,true,true,true,true,true,true,true,true,true,true,true,true,true,true,true,true,false,false,false,false] rfl rfl (Z9 HT_.out HW_.out (by kernel_rfl)) (fun _ _ _ h=>h) (Or.inl ⟨by rfl,?_⟩) hHeld ?_ ?_
                         rotate_left
                         ·
                          rintro w' ⟨s0,s1,s2,s3,s4,s5,s6,s7,s8⟩
                          go_simp
                          with_reducible rfl
                         rotate_left
                         ·
                          simp only [Act.put,List.setIfInBounds_toArray,List.set_cons_zero,List.set_cons_succ,QK,QP]
                          rfl
                         refine Yr (i:=26) (N:=some 111) (v:=?_) (a':=?_) #[true,true,true,true,true,true,true,true,true,true,true,true,true,true,true,true,true,true,true,true,true,true,true,true,true,true,true,false,false,false] rfl rfl (Ya HT_.out (by kernel_rfl)) (fun _ _ _ h=>h) (Or.inl ⟨by rfl,?_⟩) ?_ ?_
                         rotate_left
                         ·
                          intro w'
                          go_simp
                          with_reducible rfl
                         rotate_left
                         ·
                          simp only [Act.put,List.setIfInBounds_toArray,List.set_cons_zero,List.set_cons_succ,QK,QP]
                          rfl
                         refine Yr (i:=27) (N:=some 112) (v:=?_) (a':=?_) #[true,true,true,true,true,true,true,true,true,true,true,true,true,true,true,true,true,true,true,true,true,true,true,true,true,true,true,true,false,false] rfl rfl (Ya HT_.out (by kernel_rfl)) (fun _ _ _ h=>h) (Or.inl ⟨by rfl,?_⟩) ?_ ?_
                         rotate_left
                         ·
                          intro w'
                          go_simp
                          with_reducible rfl
                         rotate_left
                         ·
                          simp only [Act.put,List.setIfInBounds_toArray,List.set_cons_zero,List.set_cons_succ,QK,QP]
                          rfl
                         refine Yr (i:=28) (N:=some 113) (v:=?_) (a':=?_) #[true,true,true,true,true,true,true,true,true,true,true,true,true,true,true,true,true,true,true,true,true,true,true,true,true,true,true,true,true,false] rfl rfl (Ya HT_.out (by kernel_rfl)) (fun _ _ _ h=>h) (Or.inl ⟨by rfl,?_⟩) ?_ ?_
                         rotate_left
                         ·
                          intro w'
                          go_simp
                          with_reducible rfl
                         rotate_left
                         ·
                          simp only [Act.put,List.setIfInBounds_toArray,List.set_cons_zero,List.set_cons_succ,QK,QP]
                          rfl
                         refine Yr (i:=29) (N:=some 3) (v:=?_) (a':=?_) #[true,true,true,true,true,true,true,true,true,true,true,true,true,true,true,true,true,true,true,true,true,true,true,true,true,true,true,true,true,true] rfl rfl (Ya HT_.out (by kernel_rfl)) (fun _ _ _ h=>h) (Or.inl ⟨by rfl,?_⟩) ?_ ?_
                         rotate_left
                         ·
                          intro w'
                          go_simp
                          with_reducible rfl
                         rotate_left
                         ·
                          simp only [Act.put,List.setIfInBounds_toArray,List.set_cons_zero,List.set_cons_succ,QK,QP]
                          rfl
                         refine qbm (UP HT_.out (by kernel_rfl)) ?_
                         try go_wp2
                         go_roundg k6
                         case measure=>have:=HJ1.out;have:=HK2.out;have:=qbg.out;have:=HK4.out;have:=qhC.out;have:=HK6.out;omega
                         case rel=>exact ⟨((((QM (Qq Qb ZZ) Gk).length:Int)==((QM (Qq Qb 0) 0).length:Int))),(wrap64 (Gk+1)),(by first|rfl|(simp;done)|(simp [*];done)),(by first|rfl|(simp;done)|(simp [*];done)),H',⟨by have:=HJ1.out;have:=HK2.out;have:=qbg.out;have:=HK4.out;have:=qhC.out;have:=HK6.out;omega⟩,⟨by (with_reducible repeat (first|refine Q4 ?_ _|refine Q7 ?_|refine Q2 ?_ _));exact Y1.out⟩,⟨by repeat (first|(with_reducible first|exact HB.out|apply Q3|apply Q1|apply Q6|refine Q5 ?_ Ks.out)|exact HB.out)⟩⟩
                        rw [if_neg c52] at H
                        exact absurd H (by simp)
                       rw [if_neg c51] at H
                       exact absurd H (by simp)
                      replace c50:=Bool.eq_false_iff.mpr c50;subst c50
                      have H1:(Qd.l2 k6 false ZZ (wrap64 (Gk+1)) Qa Qe Qb)=some r:=by rw [if_neg (show ¬ (false=true) by decide)] at H;exact H
                      clear H;have H:=H1;clear H1;have H':=Q0.mk H;clear H;have qqt:wr.cell? ⟨Zd,0,none⟩=some (.slice QC Qa.length Qs):=(Q8 Y1.out 0).trans rfl;have qqu:wr.cell? ⟨Zd,1,none⟩=some (.slice QA Qe.length Qt):=(Q8 Y1.out 1).trans rfl;have qzl:wr.cell? ⟨Zd,2,none⟩=some (.slice (some Un) Qb.length Qu):=(Q8 Y1.out 2).trans rfl;have qq7:=Q9 Y1.out 0;have qq8:=Q9 Y1.out 1;have qBs:=Q9 Y1.out 2
                      try go_wp2
                      have n0_:=Q0.mk (Q7 Y1.out);have n1_:=Q0.mk (Q6 HB.out);clear Y1 HB;have Y1:=n0_;have HB:=n1_;clear n0_ n1_;have qj2:0≤(ZZ:Int):=of_decide_eq_true (by first|(with_reducible assumption)|assumption);have qkk:ZZ<(Qb.length:Int):=of_decide_eq_true (by first|(with_reducible assumption)|assumption);obtain ⟨qnZ,qs3,qfK,qtN,KT,qb1,qbN⟩:=XB Z6.out ZZ qj2 qkk;have Uv:=KT;obtain rfl:Un=qnZ:=(by injection qtN);replace KT:=(HB.out.cell (World.block_lt_of_cell? w _ KT)).trans KT;have qbi:=Q0.mk qbN;have qpv:=Q0.mk qb1;clear qbN qb1;replace qj2:=eq_true qj2;replace qkk:=eq_true qkk;have qj3:0≤(Gk:Int):=of_decide_eq_true (by first|(with_reducible assumption)|assumption);have qkl:Gk<((Qq Qb ZZ).length:Int):=of_decide_eq_true (by first|(with_reducible assumption)|assumption);obtain ⟨qek,qjf,qjt,qtO,Ow,qb2,qbO⟩:=XA qbi.out Gk qj3 qkl;have Uw:=Ow;cases qtO;replace Ow:=(HB.out.cell (World.block_lt_of_cell? w _ Ow)).trans Ow;have qfF:=Q0.mk qbO;have qpw:=Q0.mk qb2;clear qbO qb2;replace qj3:=eq_true qj3;replace qkl:=eq_true qkl;refine Xp (n:=30) (S:=fun w'=>w'.cell? ⟨Zd,0,none⟩=some (.slice QC Qa.length Qs)∧w'.cell? ⟨Zd,1,none⟩=some (.slice QA Qe.length Qt)∧w'.cell? ⟨Zd,2,none⟩=some (.slice (some Un) Qb.length Qu)∧w'.cell? (Un.add (ZZ).toNat)=some (.slice (some qek) (Qq Qb ZZ).length qfK)∧w'.cell? (qek.add (Gk).toNat)=some (.slice qjf (QM (Qq Qb ZZ) Gk).length qjt)) (ds:=[]) #[false,false,false,false,false,false,false,false,false,false,false,false,false,false,false,false,false,false,false,false,false,false,false,false,false,false,false,false,false,false] (by kernel_rfl) rfl rfl ⟨(Q8 Y1.out 0).trans rfl,(Q8 Y1.out 1).trans rfl,(Q8 Y1.out 2).trans rfl,((HB.out.cell (World.block_lt_of_cell? w _ Uv)).trans Uv),((HB.out.cell (World.block_lt_of_cell? w _ Uw)).trans Uw)⟩ (fun hHeld => ?_);refine Oc Qd.tab13 Qd.bits13 (fun HT_ HW_ => ?_)
                      generalize wr.drew=w56 at Y1 HB qbi qfF KT Ow hHeld ⊢
                      refine Yr (i:=0) (N:=some 85) (v:=?_) (a':=?_) #[true,false,false,false,false,false,false,false,false,false,false,false,false,false,false,false,false,false,false,false,false,false,false,false,false,false,false,false,false,false] rfl rfl (Ya HT_.out (by kernel_rfl)) (fun _ _ _ h=>h) (Or.inl ⟨by rfl,?_⟩) ?_ ?_
                      rotate_left
                      ·
                       intro w'
                       go_simp
                       with_reducible rfl
                      rotate_left
                      ·
                       simp only [Act.put,List.setIfInBounds_toArray,List.set_cons_zero,List.set_cons_succ,QK,QP]
                       rfl
                      refine Yr (i:=2) (N:=some 87) (v:=?_) (a':=?_) #[true,false,true,false,false,false,false,false,false,false,false,false,false,false,false,false,false,false,false,false,false,false,false,false,false,false,false,false,false,false] rfl rfl (Ya HT_.out (by kernel_rfl)) (fun _ _ _ h=>h) (Or.inl ⟨by rfl,?_⟩) ?_ ?_
                      rotate_left
                      ·
                       intro w'
                       go_simp
                       with_reducible rfl
                      rotate_left
                      ·
                       simp only [Act.put,List.setIfInBounds_toArray,List.set_cons_zero,List.set_cons_succ,QK,QP]
                       rfl
                      refine Yr (i:=5) (N:=some 90) (v:=?_) (a':=?_) #[true,false,true,false,false,true,false,false,false,false,false,false,false,false,false,false,false,false,false,false,false,false,false,false,false,false,false,false,false,false] rfl rfl (Ya HT_.out (by kernel_rfl)) (fun _ _ _ h=>h) (Or.inl ⟨by rfl,?_⟩) ?_ ?_
                      rotate_left
                      ·
                       intro w'
                       go_simp
                       with_reducible rfl
                      rotate_left
                      ·
                       simp only [Act.put,List.setIfInBounds_toArray,List.set_cons_zero,List.set_cons_succ,QK,QP]
                       rfl
                      refine JZ (i:=1) (N:=some 86) (v:=?_) (a':=?_) #[true,true,true,false,false,true,false,false,false,false,false,false,false,false,false,false,false,false,false,false,false,false,false,false,false,false,false,false,false,false] rfl rfl (Z9 HT_.out HW_.out (by kernel_rfl)) (fun _ _ _ h=>h) (Or.inl ⟨by rfl,?_⟩) hHeld ?_ ?_
                      rotate_left
                      ·
                       rintro w' ⟨s0,s1,s2,s3,s4⟩
                       go_simp
                       with_reducible rfl
                      rotate_left
                      ·
                       simp only [Act.put,List.setIfInBounds_toArray,List.set_cons_zero,List.set_cons_succ,QK,QP]
                       rfl
                      refine Yr (i:=3) (N:=some 88) (v:=?_) (a':=?_) #[true,true,true,true,false,true,false,false,false,false,false,false,false,false,false,false,false,false,false,false,false,false,false,false,false,false,false,false,false,false] rfl rfl (Ya HT_.out (by kernel_rfl)) (fun _ _ _ h=>h) (Or.inl ⟨by rfl,?_⟩) ?_ ?_
                      rotate_left
                      ·
                       intro w'
                       go_simp
                       with_reducible rfl
                      rotate_left
                      ·
                       simp only [Act.put,List.setIfInBounds_toArray,List.set_cons_zero,List.set_cons_succ,QK,QP]
                       rfl
                      refine JZ (i:=4) (N:=some 89) (v:=?_) (a':=?_) #[true,true,true,true,true,true,false,false,false,false,false,false,false,false,false,false,false,false,false,false,false,false,false,false,false,false,false,false,false,false] rfl rfl (Z9 HT_.out HW_.out (by kernel_rfl)) (fun _ _ _ h=>h) (Or.inl ⟨by rfl,?_⟩) hHeld ?_ ?_
                      rotate_left
                      ·
                       rintro w' ⟨s0,s1,s2,s3,s4⟩
                       go_simp
                       with_reducible rfl
                      rotate_left
                      ·
                       simp only [Act.put,List.setIfInBounds_toArray,List.set_cons_zero,List.set_cons_succ,QK,QP]
                       rfl
                      refine Yr (i:=6) (N:=some 91) (v:=?_) (a':=?_) #[true,true,true,true,true,true,true,false,false,false,false,false,false,false,false,false,false,false,false,false,false,false,false,false,false,false,false,false,false,false] rfl rfl (Ya HT_.out (by kernel_rfl)) (fun _ _ _ h=>h) (Or.inl ⟨by rfl,?_⟩) ?_ ?_
                      rotate_left
                      ·
                       intro w'
                       go_simp
                       with_reducible rfl
                      rotate_left
                      ·
                       simp only [Act.put,List.setIfInBounds_toArray,List.set_cons_zero,List.set_cons_succ,QK,QP]
                       rfl
                      refine JZ (i:=7) (N:=some 92) (v:=?_) (a':=?_) #[true,true,true,true,true,true,true,true,false,false,false,false,false,false,false,false,false,false,false,false,false,false,false,false,false,false,false,false,false,false] rfl rfl (Z9 HT_.out HW_.out (by kernel_rfl)) (fun _ _ _ h=>h) (Or.inl ⟨by rfl,?_⟩) hHeld ?_ ?_
                      rotate_left
                      ·
                       rintro w' ⟨s0,s1,s2,s3,s4⟩
                       go_simp
                       with_reducible rfl
                      rotate_left
                      ·
                       simp only [Act.put,List.setIfInBounds_toArray,List.set_cons_zero,List.set_cons_succ,QK,QP]
                       rfl
                      refine Yr (i:=8) (N:=some 93) (v:=?_) (a':=?_) #[true,true,true,true,true,true,true,true,true,false,false,false,false,false,false,false,false,false,false,false,false,false,false,false,false,false,false,false,false,false] rfl rfl (Ya HT_.out (by kernel_rfl)) (fun _ _ _ h=>h) (Or.inl ⟨by rfl,?_⟩) ?_ ?_
                      rotate_left
                      ·
                       intro w'
                       go_simp
                       with_reducible rfl
                      rotate_left
                      ·
                       simp only [Act.put,List.setIfInBounds_toArray,List.set_cons_zero,List.set_cons_succ,QK,QP]
                       rfl
                      refine one_ (i:=9) (N:=some 94) #[true,true,true,true,true,true,true,true,true,true,false,false,false,false,false,false,false,false,false,false,false,false,false,false,false,false,false,false,false,false] rfl rfl (O5 HT_.out (by kernel_rfl)) (by decide) (fun K hK => ?_);refine qaK Try.func34 (by kernel_rfl) rfl #[.int .i64 ((QM (Qq Qb ZZ) Gk).length:Int),.int .i64 1,.int .i64 10] (by rfl) rfl rfl (by (try simp only [List.map_toArray,List.map_cons,List.map_nil]);first|done|rfl|(simp only [List.length_drop,List.length_take];rfl)) ?_
                      with_reducible refine (Qr.calls ((QM (Qq Qb ZZ) Gk).length:Int) 1 10 false _ A49.out).mono ?_
                      rintro e w' ⟨rfl,⟨nd,rfl⟩⟩;refine ⟨_,rfl,?_⟩;refine hK.out _ _ ⟨(Q8 Y1.out 0).trans rfl,(Q8 Y1.out 1).trans rfl,(Q8 Y1.out 2).trans rfl,((HB.out.cell (World.block_lt_of_cell? w _ Uv)).trans Uv),((HB.out.cell (World.block_lt_of_cell? w _ Uw)).trans Uw)⟩ (fun hHeld => ?_);clear hK K;refine Kk (a':=?_) ?_ ?_
                      rotate_left
                      ·
                       show Act.put _ (some 94) _=_
                       simp only [Act.put,List.setIfInBounds_toArray,List.set_cons_zero,List.set_cons_succ,QK,QP]
                       rfl
                      refine Yr (i:=10) (N:=some 95) (v:=?_) (a':=?_) #[true,true,true,true,true,true,true,true,true,true,true,false,false,false,false,false,false,false,false,false,false,false,false,false,false,false,false,false,false,false] rfl rfl (Ya HT_.out (by kernel_rfl)) (fun _ _ _ h=>h) (Or.inl ⟨by rfl,?_⟩) ?_ ?_
                      rotate_left
                      ·
                       intro w'
                       go_simp
                       with_reducible rfl
                      rotate_left
                      ·
                       simp only [Act.put,List.setIfInBounds_toArray,List.set_cons_zero,List.set_cons_succ,QK,QP]
                       rfl
                      refine Yr (i:=11) (N:=some 96) (v:=undef) (a':=?_) #[true,true,true,true,true,true,true,true,true,true,true,true,false,false,false,false,false,false,false,false,false,false,false,false,false,false,false,false,false,false] rfl rfl (Ya HT_.out (by kernel_rfl)) (fun _ _ _ h=>h) (Or.inr ⟨by rfl,rfl⟩) ?_ ?_
                      rotate_left
                      ·
                       simp only [Act.put,List.setIfInBounds_toArray,List.set_cons_zero,List.set_cons_succ,QK,QP]
                       rfl
                      refine Yr (i:=12) (N:=some 97) (v:=undef) (a':=?_) #[true,true,true,true,true,true,true,true,true,true,true,true,true,false,false,false,false,false,false,false,false,false,false,false,false,false,false,false,false,false] rfl rfl (Ya HT_.out (by kernel_rfl)) (fun _ _ _ h=>h) (Or.inr ⟨by rfl,rfl⟩) ?_ ?_
                      rotate_left
                      ·
                       simp only [Act.put,List.setIfInBounds_toArray,List.set_cons_zero,List.set_cons_succ,QK,QP]
                       rfl
                      refine Yr (i:=13) (N:=some 98) (v:=undef) (a':=?_) #[true,true,true,true,true,true,true,true,true,true,true,true,true,true,false,false,false,false,false,false,false,false,false,false,false,false,false,false,false,false] rfl rfl (Ya HT_.out (by kernel_rfl)) (fun _ _ _ h=>h) (Or.inr ⟨by rfl,rfl⟩) ?_ ?_
                      rotate_left
                      ·
                       simp only [Act.put,List.setIfInBounds_toArray,List.set_cons_zero,List.set_cons_succ,QK,QP]
                       rfl
                      refine Yr (i:=14) (N:=some 99) (v:=undef) (a':=?_) #[true,true,true,true,true,true,true,true,true,true,true,true,true,true,true,false,false,false,false,false,false,false,false,false,false,false,false,false,false,false] rfl rfl (Ya HT_.out (by kernel_rfl)) (fun _ _ _ h=>h) (Or.inr ⟨by rfl,rfl⟩) ?_ ?_
                      rotate_left
                      ·
                       simp only [Act.put,List.setIfInBounds_toArray,List.set_cons_zero,List.set_cons_succ,QK,QP]
                       rfl
                      refine Yr (i:=15) (N:=some 100) (v:=undef) (a':=?_) #[true,true,true,true,true,true,true,true,true,true,true,true,true,true,true,true,false,false,false,false,false,false,false,false,false,false,false,false,false,false] rfl rfl (Ya HT_.out (by kernel_rfl)) (fun _ _ _ h=>h) (Or.inr ⟨by rfl,rfl⟩) ?_ ?_
                      rotate_left
                      ·
                       simp only [Act.put,List.setIfInBounds_toArray,List.set_cons_zero,List.set_cons_succ,QK,QP]
                       rfl
                      refine Yr (i:=16) (N:=some 101) (v:=undef) (a':=?_) #[true,true,true,true,true,true,true,true,true,true,true,true,true,true,true,true,true,false,false,false,false,false,false,false,false,false,false,false,false,false] rfl rfl (Ya HT_.out (by kernel_rfl)) (fun _ _ _ h=>h) (Or.inr ⟨by rfl,rfl⟩) ?_ ?_
                      rotate_left
                      ·
                       simp only [Act.put,List.setIfInBounds_toArray,List.set_cons_zero,List.set_cons_succ,QK,QP]
                       rfl
                      refine Yr (i:=17) (N:=some 102) (v:=undef) (a':=?_) #[true,true,true,true,true,true,true,true,true,true,true,true,true,true,true,true,true,true,false,false,false,false,false,false,false,false,false,false,false,false] rfl rfl (Ya HT_.out (by kernel_rfl)) (fun _ _ _ h=>h) (Or.inr ⟨by rfl,rfl⟩) ?_ ?_
                      rotate_left
                      ·
                       simp only [Act.put,List.setIfInBounds_toArray,List.set_cons_zero,List.set_cons_succ,QK,QP]
                       rfl
                      refine Yr (i:=18) (N:=some 103) (v:=undef) (a':=?_) #[true,true,true,true,true,true,true,true,true,true,true,true,true,true,true,true,true,true,true,false,false,false,false,false,false,false,false,false,false,false] rfl rfl (Ya HT_.out (by kernel_rfl)) (fun _ _ _ h=>h) (Or.inr ⟨by rfl,rfl⟩) ?_ ?_
                      rotate_left
                      ·
                       simp only [Act.put,List.setIfInBounds_toArray,List.set_cons_zero,List.set_cons_succ,QK,QP]
                       rfl
                      refine Yr (i:=19) (N:=some 104) (v:=undef) (a':=?_) #[true,true,true,true,true,true,true,true,true,true,true,true,true,true,true,true,true,true,true,true,false,false,false,false,false,false,false,false,false,false] rfl rfl (Ya HT_.out (by kernel_rfl)) (fun _ _ _ h=>h) (Or.inr ⟨by rfl,rfl⟩) ?_ ?_
                      rotate_left
                      ·
                       simp only [Act.put,List.setIfInBounds_toArray,List.set_cons_zero,List.set_cons_succ,QK,QP]
                       rfl
                      refine Yr (i:=20) (N:=some 105) (v:=undef) (a':=?_) #[true,true,true,true,true,true,true,true,true,true,true,true,true,true,true,true,true,true,true,true,true,false,false,false,false,false,false,false,false,false] rfl rfl (Ya HT_.out (by kernel_rfl)) (fun _ _ _ h=>h) (Or.inr ⟨by rfl,rfl⟩) ?_ ?_
                      rotate_left
                      ·
                       simp only [Act.put,List.setIfInBounds_toArray,List.set_cons_zero,List.set_cons_succ,QK,QP]
                       rfl
                      refine Yr (i:=21) (N:=some 106) (v:=undef) (a':=?_) #[true,true,true,true,true,true,true,true,true,true,true,true,true,true,true,true,true,true,true,true,true,true,false,false,false,false,false,false,false,false] rfl rfl (Ya HT_.out (by kernel_rfl)) (fun _ _ _ h=>h) (Or.inr ⟨by rfl,rfl⟩) ?_ ?_
                      rotate_left
                      ·
                       simp only [Act.put,List.setIfInBounds_toArray,List.set_cons_zero,List.set_cons_succ,QK,QP]
                       rfl
                      refine Yr (i:=22) (N:=some 107) (v:=undef) (a':=?_) #[true,true,true,true,true,true,true,true,true,true,true,true,true,true,true,true,true,true,true,true,true,true,true,false,false,false,false,false,false,false] rfl rfl (Ya HT_.out (by kernel_rfl)) (fun _ _ _ h=>h) (Or.inr ⟨by rfl,rfl⟩) ?_ ?_
                      rotate_left
                      ·
                       simp only [Act.put,List.setIfInBounds_toArray,List.set_cons_zero,List.set_cons_succ,QK,QP]
                       rfl
                      refine Yr (i:=23) (N:=some 108) (v:=undef) (a':=?_) #[true,true,true,true,true,true,true,true,true,true,true,true,true,true,true,true,true,true,true,true,true,true,true,true,false,false,false,false,false,false] rfl rfl (Ya HT_.out (by kernel_rfl)) (fun _ _ _ h=>h) (Or.inr ⟨by rfl,rfl⟩) ?_ ?_
                      rotate_left
                      ·
                       simp only [Act.put,List.setIfInBounds_toArray,List.set_cons_zero,List.set_cons_succ,QK,QP]
                       rfl
                      refine Yr (i:=24) (N:=some 109) (v:=undef) (a':=?_) #[true,true,true,true,true,true,true,true,true,true,true,true,true,true,true,true,true,true,true,true,true,true,true,true,true,false,false,false,false,false] rfl rfl (Ya HT_.out (by kernel_rfl)) (fun _ _ _ h=>h) (Or.inr ⟨by rfl,rfl⟩) ?_ ?_
                      rotate_left
                      ·
                       simp only [Act.put,List.setIfInBounds_toArray,List.set_cons_zero,List.set_cons_succ,QK,QP]
                       rfl
                      refine Yr (i:=25) (N:=some 110) (v:=undef) (a':=?_) #[true,true,true,true,true,true,true,true,true,true,true,true,true,true,true,true,true,true,true,true,true,true,true,true,true,true,false,false,false,false] rfl rfl (Ya HT_.out (by kernel_rfl)) (fun _ _ _ h=>h) (Or.inr ⟨by rfl,rfl⟩) ?_ ?_
                      rotate_left
                      ·
                       simp only [Act.put,List.setIfInBounds_toArray,List.set_cons_zero,List.set_cons_succ,QK,QP]
                       rfl
                      refine Yr (i:=26) (N:=some 111) (v:=undef) (a':=?_) #[true,true,true,true,true,true,true,true,true,true,true,true,true,true,true,true,true,true,true,true,true,true,true,true,true,true,true,false,false,false] rfl rfl (Ya HT_.out (by kernel_rfl)) (fun _ _ _ h=>h) (Or.inr ⟨by rfl,rfl⟩) ?_ ?_
                      rotate_left
                      ·
                       simp only [Act.put,List.setIfInBounds_toArray,List.set_cons_zero,List.set_cons_succ,QK,QP]
                       rfl
                      refine Yr (i:=27) (N:=some 112) (v:=undef) (a':=?_) #[true,true,true,true,true,true,true,true,true,true,true,true,true,true,true,true,true,true,true,true,true,true,true,true,true,true,true,true,false,false] rfl rfl (Ya HT_.out (by kernel_rfl)) (fun _ _ _ h=>h) (Or.inr ⟨by rfl,rfl⟩) ?_ ?_
                      rotate_left
                      ·
                       simp only [Act.put,List.setIfInBounds_toArray,List.set_cons_zero,List.set_cons_succ,QK,QP]
                       rfl
                      refine Yr (i:=28) (N:=some 113) (v:=?_) (a':=?_) #[true,true,true,true,true,true,true,true,true,true,true,true,true,true,true,true,true,true,true,true,true,true,true,true,true,true,true,true,true,false] rfl rfl (Ya HT_.out (by kernel_rfl)) (fun _ _ _ h=>h) (Or.inl ⟨by rfl,?_⟩) ?_ ?_
                      rotate_left
                      ·
                       intro w'
                       go_simp
                       with_reducible rfl
                      rotate_left
                      ·
                       simp only [Act.put,List.setIfInBounds_toArray,List.set_cons_zero,List.set_cons_succ,QK,QP]
                       rfl
                      refine Yr (i:=29) (N:=some 3) (v:=?_) (a':=?_) #[true,true,true,true,true,true,true,true,true,true,true,true,true,true,true,true,true,true,true,true,true,true,true,true,true,true,true,true,true,true] rfl rfl (Ya HT_.out (by kernel_rfl)) (fun _ _ _ h=>h) (Or.inl ⟨by rfl,?_⟩) ?_ ?_
                      rotate_left
                      ·
                       intro w'
                       go_simp
                       with_reducible rfl
                      rotate_left
                      ·
                       simp only [Act.put,List.setIfInBounds_toArray,List.set_cons_zero,List.set_cons_succ,QK,QP]
                       rfl
                      refine qbm (UP HT_.out (by kernel_rfl)) ?_
                      try go_wp2
                      go_roundg k6
                      case measure=>have:=HJ1.out;have:=HK2.out;have:=qbg.out;have:=HK4.out;have:=qhC.out;have:=HK6.out;omega
                      case rel=>exact ⟨(false),(wrap64 (Gk+1)),(by first|rfl|(simp;done)|(simp [*];done)),(by first|rfl|(simp;done)|(simp [*];done)),H',⟨by have:=HJ1.out;have:=HK2.out;have:=qbg.out;have:=HK4.out;have:=qhC.out;have:=HK6.out;omega⟩,⟨by (with_reducible repeat (first|refine Q4 ?_ _|refine Q7 ?_|refine Q2 ?_ _));exact Y1.out⟩,⟨by repeat (first|(with_reducible first|exact HB.out|apply Q3|apply Q1|apply Q6|refine Q5 ?_ Ks.out)|exact HB.out)⟩⟩
                     rw [if_neg c48] at H
                     exact absurd H (by simp)
                    rw [if_neg c47] at H
                    exact absurd H (by simp)
                   rw [if_neg c46] at H
                   exact absurd H (by simp)
                  rw [if_neg c45] at H
                  exact absurd H (by simp)
                 rw [if_neg c44] at H;have c44b0:decide (Gk<(Qa.length:Int))=false:=decide_eq_false c44;clear c44;have H':=Q0.mk H;clear H;have qqv:wr.cell? ⟨Zd,0,none⟩=some (.slice QC Qa.length Qs):=(Q8 Y1.out 0).trans rfl;have qqw:wr.cell? ⟨Zd,1,none⟩=some (.slice QA Qe.length Qt):=(Q8 Y1.out 1).trans rfl;have qqx:wr.cell? ⟨Zd,2,none⟩=some (.slice (some Un) Qb.length Qu):=(Q8 Y1.out 2).trans rfl;have qq9:=Q9 Y1.out 0;have qra:=Q9 Y1.out 1;have qrb:=Q9 Y1.out 2
                 go_wp2
                 go_roundg k6
                 case measure=>have:=HJ1.out;have:=HK2.out;have:=qbg.out;have:=HK4.out;have:=qhC.out;have:=HK6.out;omega
                 case rel=>exact ⟨(true),(wrap64 (ZZ+1)),(by first|rfl|(simp;done)|(simp [*];done)),(by first|rfl|(simp;done)|(simp [*];done)),H',⟨by have:=HJ1.out;have:=HK2.out;have:=qbg.out;have:=HK4.out;have:=qhC.out;have:=HK6.out;omega⟩,⟨by (with_reducible repeat (first|refine Q4 ?_ _|refine Q7 ?_|refine Q2 ?_ _));exact Y1.out⟩,⟨by repeat (first|(with_reducible first|exact HB.out|apply Q3|apply Q1|apply Q6|refine Q5 ?_ Ks.out)|exact HB.out)⟩⟩
                replace c43:=Bool.eq_false_iff.mpr c43;subst c43
                have H1:(Qd.l1 k6 false (wrap64 (ZZ+1)) Qa Qe Qb)=some r:=by rw [if_neg (show ¬ (false=true) by decide)] at H;exact H
                clear H;have H:=H1;clear H1;have H':=Q0.mk H;clear H
                go_wp2
                go_roundg k6
                case measure=>have:=HJ1.out;have:=HK2.out;have:=qbg.out;have:=HK4.out;have:=qhC.out;have:=HK6.out;omega
                case rel=>exact ⟨(false),(wrap64 (ZZ+1)),(by first|rfl|(simp;done)|(simp [*];done)),(by first|rfl|(simp;done)|(simp [*];done)),H',⟨by have:=HJ1.out;have:=HK2.out;have:=qbg.out;have:=HK4.out;have:=qhC.out;have:=HK6.out;omega⟩,⟨by (with_reducible repeat (first|refine Q4 ?_ _|refine Q7 ?_|refine Q2 ?_ _));exact Y1.out⟩,⟨by repeat (first|(with_reducible first|exact HB.out|apply Q3|apply Q1|apply Q6|refine Q5 ?_ Ks.out)|exact HB.out)⟩⟩
             rw [if_neg c41] at H
             exact absurd H (by simp)
            rw [if_neg c40] at H
            exact absurd H (by simp)
           replace c39:=Bool.eq_false_iff.mpr c39;subst c39
           have H1:(some qnp)=some r:=by rw [if_neg (show ¬ (false=true) by decide)] at H;exact H
           clear H;have H:=H1;clear H1;obtain rfl:=Option.some.inj H
           go_wp2
           go_ret
           exact ⟨by first|rfl|(simp [Qx,Qy]<;>rfl)|(simp [*,Qx,Qy]<;>rfl),by repeat (first|(with_reducible first|exact HB.out|apply Q3|apply Q1|apply Q6|refine Q5 ?_ Ks.out)|exact HB.out)⟩
end
section
attribute [local go_sem] Ys Yu YG YH Yj Yk Yt Yv
mutual
def Qw.j0:Nat→List Int→List Int→Bool→List Int→List Int→List Int→Int→Int→Option (List Int × Int)
 | 0,_,_,_,_,_,_,_,_=>none
 | k+1,x1,x2,x9,KU,KV,KW,KX,KY=>Qw.l0 k x1 x2 x9 0 KU KV KW KX KY
def Qw.l0:Nat→List Int→List Int→Bool→Int→List Int→List Int→List Int→Int→Int→Option (List Int × Int)
 | 0,_,_,_,_,_,_,_,_,_=>none
 | k+1,x1,x2,x9,x10,KU,KV,KW,KX,KY=>if x9=true then (Qw.j2 k x1 x2 x9 x10 (decide (x10<(x1.length:Int))) KU KV KW KX KY) else (Qw.j2 k x1 x2 x9 x10 false KU KV KW KX KY)
def Qw.j2:Nat→List Int→List Int→Bool→Int→Bool→List Int→List Int→List Int→Int→Int→Option (List Int × Int)
 | 0,_,_,_,_,_,_,_,_,_,_=>none
 | k+1,x1,x2,x9,x10,x39,KU,KV,KW,KX,KY=>if x39=true then (if 0≤x10 then (if x10<(x1.length:Int) then ((Qm.f (rd x1 x10) 0 100000000).bind fun t159=>(if t159=true then (if x10<(x2.length:Int) then ((Qm.f (rd x2 x10) 0 100000).bind fun qeF=>(Qw.l0 k x1 x2 qeF (wrap64 (x10+1)) KU KV KW KX KY)) else (none)) else (Qw.l0 k x1 x2 false (wrap64 (x10+1)) KU KV KW KX KY))) else (none)) else (none)) else (if x9=true then ((Z2.f KU KV KW KX KY).bind fun O9=>(Qw.l1 k x1 x2 ([]:List Int) (x1.length:Int) 0 KU KV KW KX KY O9.1 O9.2.1 O9.2.2.1 O9.2.2.2.1 O9.2.2.2.2.1 O9.2.2.2.2.2)) else (some (([]:List Int),92)))
def Qw.l1:Nat→List Int→List Int→List Int→Int→Int→List Int→List Int→List Int→Int→Int→Int→Int→Int→Int→Int→Int→Option (List Int × Int)
 | 0,_,_,_,_,_,_,_,_,_,_,_,_,_,_,_,_=>none
 | k+1,x1,x2,x13,x59,x60,KU,KV,KW,KX,KY,qrX,qrY,qrZ,qr0,qr1,qr2=>if x60<x59 then (if 0≤x60 then (if x60<(x1.length:Int) then (if x60<(x2.length:Int) then ((YV.f KU KV KW KX KY qrX qrY qrZ qr0 qr1 qr2 (rd x1 x60) (rd x2 x60)).bind fun qem=>(if x13.length<17592186044416 then (Qw.l1 k x1 x2 (x13++[qem.1]) x59 (wrap64 (x60+1)) KU KV KW KX KY qem.2.1 qem.2.2.1 qem.2.2.2.1 qem.2.2.2.2.1 qem.2.2.2.2.2.1 qem.2.2.2.2.2.2) else (none))) else (none)) else (none)) else (none)) else (if 0≤(x13.length:Int) then (if (x13.length:Int)≤(x13.length:Int) then (some ((x13.take ((x13.length:Int):Int).toNat),0)) else (none)) else (none))
end
def Qw.f (k:Nat) (Qa:List Int) (Qe:List Int) (Qb:List Int) (Y0:Int) (QU:Int) (l1:List Int) (l2:List Int):Option (List Int × Int):=(Qh.f k Qa Qe Qb Y0 QU).bind fun t156=>(if t156=true then ((Qm.f (l1.length:Int) 1 10).bind fun t157=>(if t157=true then (Qw.j0 k l1 l2 ((l2.length:Int)==(l1.length:Int)) Qa Qe Qb Y0 QU) else (Qw.j0 k l1 l2 false Qa Qe Qb Y0 QU))) else (Qw.j0 k l1 l2 false Qa Qe Qb Y0 QU))
def Qw.T15:Bool × List (List Nat × List Nat):=(true,[([],[]),([],[]),([],[]),([],[]),([],[]),([3,4],[3,4]),([5],[5]),([],[]),([],[]),([7,8],[7,8]),([9],[9]),([0,1,2,6,10],[0,1,2,6,10]),([11],[11]),([12],[12]),([12],[12]),([],[]),([13,11,0,1,2,3,4,5,6,7,8,9,10,11,12,13,15],[13]),([15,14,16,0,1,2,3,4,5,6,7,8,9,10,11,12,13,14,15,16],[14,15])])
def Qw.B15:List Nat:=[0,0,0,0,0,24,56,0,0,384,896,2047,4095,8191,8191,0,49151,131071]
theorem Qw.tab15:rtab .any (qex Try.f25 15)=Qw.T15:=by kernel_rfl
theorem Qw.bits15:OA Qw.T15.2 Qw.B15=true:=by kernel_rfl
set_option maxHeartbeats 8000000 in
set_option maxRecDepth 100000 in
theorem Qw.calls (k:Nat) (QC:Option Addr) (Qs:Nat) (Qa:List Int) (QA:Option Addr) (Qt:Nat) (Qe:List Int) (QE:Option Addr) (Qu:Nat) (Qb:List Int) (Y0:Int) (QU:Int) (A1:Option Addr) (c1:Nat) (l1:List Int) (A2:Option Addr) (c2:Nat) (l2:List Int) (r1:List Int) (r2:Int) (w:World) (JV:Kd.C (Kd.int .i64) w QC Qa.length Qa) (G7:Qa.length≤Qs) (JW:Kd.C (Kd.int .i64) w QA Qe.length Qe) (G8:Qe.length≤Qt) (JX:Kd.C (Kd.int .i64) w QE Qb.length Qb) (G9:Qb.length≤Qu) (hr1:Kd.C (Kd.int .i64) w A1 l1.length l1) (hc1:l1.length≤c1) (hr2:Kd.C (Kd.int .i64) w A2 l2.length l2) (hc2:l2.length≤c2) (h:Qw.f k Qa Qe Qb Y0 QU l1 l2=some (r1,r2)) :
  Calls Try.prog 25 #[.agg #[.slice QC Qa.length Qs,.slice QA Qe.length Qt,.slice QE Qb.length Qu,.int .i64 Y0,.int .i64 QU],.slice A1 l1.length c1,.slice A2 l2.length c2] w fun e w' => ∃ v0_:Value,e = .returned (.tuple #[v0_,.int .i64 r2])∧Kd.V (Kd.int .i64) 3 w' w.heap.size (fun k_=>(w.heap.size≤k_)) v0_ r1∧Below w.heap.size w w':=by
 have qjH:=Try.underlying39
 have qoG:=Try.underlying111
 have qx6:=Try.underlying115
 have Z5:=Q0.mk JV
 have ZD:=Q0.mk G7
 clear JV G7
 have Zj:=Q0.mk JW
 have ZE:=Q0.mk G8
 clear JW G8
 have Z6:=Q0.mk JX
 have ZF:=Q0.mk G9
 clear JX G9
 have HR1:=Q0.mk hr1
 have HC1:=Q0.mk hc1
 clear hr1 hc1
 have HR2:=Q0.mk hr2
 have HC2:=Q0.mk hc2
 clear hr2 hc2
 have HB:=Q0.mk (Below.refl w.heap.size w)
 have H:((Qh.f k Qa Qe Qb Y0 QU).bind fun t156=>(if t156=true then ((Qm.f (l1.length:Int) 1 10).bind fun t157=>(if t157=true then (Qw.j0 k l1 l2 ((l2.length:Int)==(l1.length:Int)) Qa Qe Qb Y0 QU) else (Qw.j0 k l1 l2 false Qa Qe Qb Y0 QU))) else (Qw.j0 k l1 l2 false Qa Qe Qb Y0 QU)))=some (r1,r2):=h
 clear h
 have HC4:=Q0.mk H
 clear H
 go_enter Try.func25,Try.ntmps25
 go_upto_region 2 with (first|((with_reducible refine QZ (N:=3) rfl ?_);(try (refine Jn (by rfl) ?_;dsimp only));refine Yp ?hg (N:=3) ?hd (cs:=#[.slice QC Qa.length Qs,.slice QA Qe.length Qt,.slice QE Qb.length Qu,.int .i64 Y0,.int .i64 QU]) (t:=39) ?hr ?_;(case hd=>rfl);(case hg=>rfl);(case hr=>first|(go_simp;done)|(go_simp;rfl));intro Jg hg w5 hbox hb;have n0_:=Q0.mk (Qk (by repeat (first|(with_reducible first|exact HB.out|apply Q3|apply Q1|apply Q6)|exact HB.out)) hb);have n1_:=Q0.mk (hbox);have n2_:=Q0.mk ((by rw [hg];exact (Qi (by repeat (first|(with_reducible first|exact HB.out|apply Q3|apply Q1|apply Q6)|exact HB.out))):w.heap.size≤Jg));have n3_:=n2_;clear HB;have HB:=n0_;have YW:=n1_;have qGe:=n2_;have Jd:=n3_;clear n0_ n1_ n2_ n3_ hb hbox hg;have qaW:w5.cell? ⟨Jg,0,none⟩=some (.slice QC Qa.length Qs):=(Q8 YW.out 0).trans rfl;have qaX:w5.cell? ⟨Jg,1,none⟩=some (.slice QA Qe.length Qt):=(Q8 YW.out 1).trans rfl;have qcE:w5.cell? ⟨Jg,2,none⟩=some (.slice QE Qb.length Qu):=(Q8 YW.out 2).trans rfl;have qgc:w5.cell? ⟨Jg,3,none⟩=some (.int .i64 Y0):=(Q8 YW.out 3).trans rfl;have qgd:w5.cell? ⟨Jg,4,none⟩=some (.int .i64 QU):=(Q8 YW.out 4).trans rfl;have qa0:=Q9 YW.out 0;have qa1:=Q9 YW.out 1;have qcF:=Q9 YW.out 2;have qgB:=Q9 YW.out 3;have qgC:=Q9 YW.out 4)|((with_reducible refine QZ (N:=8) rfl ?_);(try (refine Jn (by rfl) ?_;dsimp only));refine Yp ?hg (N:=8) ?hd (cs:=#[.slice none 0 0,.slice none 0 0,.slice none 0 0,.int .i64 0,.int .i64 0]) (t:=111) ?hr ?_;(case hd=>rfl);(case hg=>rfl);(case hr=>first|(go_simp;done)|(go_simp;rfl));intro YZ hg w7 hbox hb;have n0_:=Q0.mk (Qf (g:=Jg) (by (with_reducible repeat (first|refine Q4 ?_ _|refine Q7 ?_|refine Q2 ?_ _));exact YW.out) hb);have n1_:=Q0.mk (Qk (by repeat (first|(with_reducible first|exact HB.out|apply Q3|apply Q1|apply Q6|refine Q5 ?_ Jd.out)|exact HB.out)) hb);have n2_:=Q0.mk (hbox);have n3_:=Q0.mk ((by rw [hg];exact (Qi (by repeat (first|(with_reducible first|exact HB.out|apply Q3|apply Q1|apply Q6|refine Q5 ?_ Jd.out)|exact HB.out))):w.heap.size≤YZ));have n4_:=n3_;have n5_:=Q0.mk ((by rw [hg];exact Nat.ne_of_lt (QT (g:=Jg) (by (with_reducible repeat (first|refine Q4 ?_ _|refine Q7 ?_|refine Q2 ?_ _));exact YW.out)):Jg≠YZ));have n6_:=Q0.mk (n5_.out.symm);clear YW HB;have YW:=n0_;have HB:=n1_;have Yd:=n2_;have qGf:=n3_;have Jl:=n4_;have ZX:=n5_;have Wx:=n6_;clear n0_ n1_ n2_ n3_ n4_ n5_ n6_ hb hbox hg;have qI8:=Wx.out;have qI9:=ZX.out;have KZ:w7.cell? ⟨YZ,0,none⟩=some (.slice none 0 0):=(Q8 Yd.out 0).trans rfl;have O0:w7.cell? ⟨YZ,1,none⟩=some (.slice none 0 0):=(Q8 Yd.out 1).trans rfl;have O1:w7.cell? ⟨YZ,2,none⟩=some (.slice none 0 0):=(Q8 Yd.out 2).trans rfl;have qge:w7.cell? ⟨YZ,3,none⟩=some (.int .i64 0):=(Q8 Yd.out 3).trans rfl;have qgf:w7.cell? ⟨YZ,4,none⟩=some (.int .i64 0):=(Q8 Yd.out 4).trans rfl;have O2:=Q9 Yd.out 0;have O3:=Q9 Yd.out 1;have O4:=Q9 Yd.out 2;have qgD:=Q9 Yd.out 3;have qgE:=Q9 Yd.out 4))
 (try simp only [Act.put,List.setIfInBounds_toArray,List.set_cons_zero,List.set_cons_succ])
 go_cut [9] (fun v9 wc => ∃ (kq:Nat) (qr4:Bool),v9 = .bool qr4∧Q0 (Qw.j0 kq l1 l2 qr4 Qa Qe Qb Y0 QU=some (r1,r2))∧Q0 (kq≤k)∧Q0 (wc.heap[Jg]? = some (.cells #[(.slice QC Qa.length Qs),(.slice QA Qe.length Qt),(.slice QE Qb.length Qu),.int .i64 Y0,.int .i64 QU] 39 (0,0)))∧Q0 (wc.heap[YZ]? = some (.cells #[(.slice QC Qa.length Qs),(.slice QA Qe.length Qt),(.slice QE Qb.length Qu),.int .i64 Y0,.int .i64 QU] 111 (0,0)))∧Q0 (Below w.heap.size w wc))
 case first =>
  have H:=HC4.out
  clear HC4
  replace H:=Option.bind_eq_some_iff.mp H
  obtain ⟨t156,qnv,H⟩:=H
  replace H:(if t156=true then ((Qm.f (l1.length:Int) 1 10).bind fun t157=>(if t157=true then (Qw.j0 k l1 l2 ((l2.length:Int)==(l1.length:Int)) Qa Qe Qb Y0 QU) else (Qw.j0 k l1 l2 false Qa Qe Qb Y0 QU))) else (Qw.j0 k l1 l2 false Qa Qe Qb Y0 QU))=some (r1,r2):=H
  have A10:=Q0.mk qnv
  clear qnv
  by_cases c11:t156=true
  ·
   subst c11
   have H1:((Qm.f (l1.length:Int) 1 10).bind fun t157=>(if t157=true then (Qw.j0 k l1 l2 ((l2.length:Int)==(l1.length:Int)) Qa Qe Qb Y0 QU) else (Qw.j0 k l1 l2 false Qa Qe Qb Y0 QU)))=some (r1,r2):=by rw [if_pos rfl] at H;exact H
   clear H
   have H:=H1
   clear H1
   replace H:=Option.bind_eq_some_iff.mp H
   obtain ⟨t157,qea,H⟩:=H
   replace H:(if t157=true then (Qw.j0 k l1 l2 ((l2.length:Int)==(l1.length:Int)) Qa Qe Qb Y0 QU) else (Qw.j0 k l1 l2 false Qa Qe Qb Y0 QU))=some (r1,r2):=H
   have A12:=Q0.mk qea
   clear qea
   by_cases c13:t157=true
   ·
    subst c13
    have H1:(Qw.j0 k l1 l2 ((l2.length:Int)==(l1.length:Int)) Qa Qe Qb Y0 QU)=some (r1,r2):=by rw [if_pos rfl] at H;exact H
    clear H;have H:=H1;clear H1;have H':=Q0.mk H;clear H;have qG5:=Wx.out;have qHN:=ZX.out;have Gu:w7.cell? ⟨YZ,0,none⟩=some (.slice none 0 0):=(Q8 Yd.out 0).trans rfl;have Gv:w7.cell? ⟨YZ,1,none⟩=some (.slice none 0 0):=(Q8 Yd.out 1).trans rfl;have Ka:w7.cell? ⟨YZ,2,none⟩=some (.slice none 0 0):=(Q8 Yd.out 2).trans rfl;have UU:w7.cell? ⟨YZ,3,none⟩=some (.int .i64 0):=(Q8 Yd.out 3).trans rfl;have UV:w7.cell? ⟨YZ,4,none⟩=some (.int .i64 0):=(Q8 Yd.out 4).trans rfl;have Gz:=Q9 Yd.out 0;have GA:=Q9 Yd.out 1;have Kh:=Q9 Yd.out 2;have UZ:=Q9 Yd.out 3;have W4:=Q9 Yd.out 4
    go_wp2_with (first|((with_reducible refine QD (f:=76) rfl ?_);refine YC (some 20) rfl rfl Try.func76 (by kernel_rfl) rfl #[.agg #[.slice QC Qa.length Qs,.slice QA Qe.length Qt,.slice QE Qb.length Qu,.int .i64 Y0,.int .i64 QU]] rfl (by (try simp only [List.map_toArray,List.map_cons,List.map_nil]);first|done|rfl|(simp only [List.length_drop,List.length_take];rfl)) ?_;(with_reducible refine (Qh.calls k _ _ Qa _ _ Qe _ _ Qb Y0 QU true _ ?side1 ?side2 ?side3 ?side4 ?side5 ?side6 A10.out).mono ?_);(case side1=>exact Kd.C_below Z5.out (by repeat (first|(with_reducible first|exact HB.out|apply Q3|apply Q1|apply Q6|refine Q5 ?_ Jd.out|refine Q5 ?_ Jl.out)|exact HB.out)));(case side2=>exact ZD.out);(case side3=>exact Kd.C_below Zj.out (by repeat (first|(with_reducible first|exact HB.out|apply Q3|apply Q1|apply Q6|refine Q5 ?_ Jd.out|refine Q5 ?_ Jl.out)|exact HB.out)));(case side4=>exact ZE.out);(case side5=>exact Kd.C_below Z6.out (by repeat (first|(with_reducible first|exact HB.out|apply Q3|apply Q1|apply Q6|refine Q5 ?_ Jd.out|refine Q5 ?_ Jl.out)|exact HB.out)));(case side6=>exact ZF.out);rintro e w16 ⟨rfl,hb⟩;refine ⟨_,rfl,?_⟩;have n0_:=Q0.mk (Qf (g:=Jg) (o:=.cells #[.slice QC Qa.length Qs,.slice QA Qe.length Qt,.slice QE Qb.length Qu,.int .i64 Y0,.int .i64 QU] 39 (0,0)) (by (with_reducible repeat (first|refine Q4 ?_ _|refine Q7 ?_|refine Q2 ?_ _));refine Qp ?_ ZX.out _;(with_reducible repeat (first|refine Q4 ?_ _|refine Q7 ?_|refine Q2 ?_ _));refine Qp ?_ ZX.out _;(with_reducible repeat (first|refine Q4 ?_ _|refine Q7 ?_|refine Q2 ?_ _));refine Qp ?_ ZX.out _;(with_reducible repeat (first|refine Q4 ?_ _|refine Q7 ?_|refine Q2 ?_ _));refine Qp ?_ ZX.out _;(with_reducible repeat (first|refine Q4 ?_ _|refine Q7 ?_|refine Q2 ?_ _));refine Qp ?_ ZX.out _;(with_reducible repeat (first|refine Q4 ?_ _|refine Q7 ?_|refine Q2 ?_ _));exact YW.out) hb);have n1_:=Q0.mk (Qf (g:=YZ) (o:=.cells #[.slice QC Qa.length Qs,.slice QA Qe.length Qt,.slice QE Qb.length Qu,.int .i64 Y0,.int .i64 QU] 111 (0,0)) (by (with_reducible repeat (first|refine Q4 ?_ _|refine Q7 ?_|refine Q2 ?_ _));refine QH (cs:=#[.slice QC Qa.length Qs,.slice QA Qe.length Qt,.slice QE Qb.length Qu,.int .i64 Y0,.int .i64 0]) ?_ 4 _ rfl;(with_reducible repeat (first|refine Q4 ?_ _|refine Q7 ?_|refine Q2 ?_ _));refine QH (cs:=#[.slice QC Qa.length Qs,.slice QA Qe.length Qt,.slice QE Qb.length Qu,.int .i64 0,.int .i64 0]) ?_ 3 _ rfl;(with_reducible repeat (first|refine Q4 ?_ _|refine Q7 ?_|refine Q2 ?_ _));refine QH (cs:=#[.slice QC Qa.length Qs,.slice QA Qe.length Qt,.slice none 0 0,.int .i64 0,.int .i64 0]) ?_ 2 _ rfl;(with_reducible repeat (first|refine Q4 ?_ _|refine Q7 ?_|refine Q2 ?_ _));refine QH (cs:=#[.slice QC Qa.length Qs,.slice none 0 0,.slice none 0 0,.int .i64 0,.int .i64 0]) ?_ 1 _ rfl;(with_reducible repeat (first|refine Q4 ?_ _|refine Q7 ?_|refine Q2 ?_ _));refine QH (cs:=#[.slice none 0 0,.slice none 0 0,.slice none 0 0,.int .i64 0,.int .i64 0]) ?_ 0 _ rfl;(with_reducible repeat (first|refine Q4 ?_ _|refine Q7 ?_|refine Q2 ?_ _));exact Yd.out) hb);have n2_:=Q0.mk (Qk (by repeat (first|(with_reducible first|exact HB.out|apply Q3|apply Q1|apply Q6|refine Q5 ?_ Jd.out|refine Q5 ?_ Jl.out)|exact HB.out)) hb);clear YW Yd HB;have YW:=n0_;have Yd:=n1_;have HB:=n2_;clear n0_ n1_ n2_;(try clear hb);(try clear hb2);(try clear hk);(try clear hi))|(go_at_call 65;(with_reducible refine (Qm.calls (l1.length:Int) 1 10 true _ A12.out).mono ?_);rintro e w' ⟨rfl,⟨nd,rfl⟩⟩))
    go_meet
    case rel=>exact ⟨_,(((l2.length:Int)==(l1.length:Int))),(by first|rfl|(simp;done)|(simp [*];done)),H',⟨by first|omega|exact Nat.le_refl _⟩,⟨by (with_reducible repeat (first|refine Q4 ?_ _|refine Q7 ?_|refine Q2 ?_ _));exact YW.out⟩,⟨by (with_reducible repeat (first|refine Q4 ?_ _|refine Q7 ?_|refine Q2 ?_ _));exact Yd.out⟩,⟨by repeat (first|(with_reducible first|exact HB.out|apply Q3|apply Q1|apply Q6|refine Q5 ?_ Jd.out|refine Q5 ?_ Jl.out)|exact HB.out)⟩⟩
   replace c13:=Bool.eq_false_iff.mpr c13
   subst c13
   have H1:(Qw.j0 k l1 l2 false Qa Qe Qb Y0 QU)=some (r1,r2):=by rw [if_neg (show ¬ (false=true) by decide)] at H;exact H
   clear H
   have H:=H1
   clear H1
   have H':=Q0.mk H
   clear H
   have qxC:=Wx.out
   have qxQ:=ZX.out
   have Gw:w7.cell? ⟨YZ,0,none⟩=some (.slice none 0 0):=(Q8 Yd.out 0).trans rfl
   have Gx:w7.cell? ⟨YZ,1,none⟩=some (.slice none 0 0):=(Q8 Yd.out 1).trans rfl
   have Gy:w7.cell? ⟨YZ,2,none⟩=some (.slice none 0 0):=(Q8 Yd.out 2).trans rfl
   have qdl:w7.cell? ⟨YZ,3,none⟩=some (.int .i64 0):=(Q8 Yd.out 3).trans rfl
   have qdm:w7.cell? ⟨YZ,4,none⟩=some (.int .i64 0):=(Q8 Yd.out 4).trans rfl
   have GC:=Q9 Yd.out 0
   have GD:=Q9 Yd.out 1
   have GE:=Q9 Yd.out 2
   have qdx:=Q9 Yd.out 3
   have qdy:=Q9 Yd.out 4
   go_wp2_with (first|((with_reducible refine QD (f:=76) rfl ?_);refine YC (some 20) rfl rfl Try.func76 (by kernel_rfl) rfl #[.agg #[.slice QC Qa.length Qs,.slice QA Qe.length Qt,.slice QE Qb.length Qu,.int .i64 Y0,.int .i64 QU]] rfl (by (try simp only [List.map_toArray,List.map_cons,List.map_nil]);first|done|rfl|(simp only [List.length_drop,List.length_take];rfl)) ?_;(with_reducible refine (Qh.calls k _ _ Qa _ _ Qe _ _ Qb Y0 QU true _ ?side1 ?side2 ?side3 ?side4 ?side5 ?side6 A10.out).mono ?_);(case side1=>exact Kd.C_below Z5.out (by repeat (first|(with_reducible first|exact HB.out|apply Q3|apply Q1|apply Q6|refine Q5 ?_ Jd.out|refine Q5 ?_ Jl.out)|exact HB.out)));(case side2=>exact ZD.out);(case side3=>exact Kd.C_below Zj.out (by repeat (first|(with_reducible first|exact HB.out|apply Q3|apply Q1|apply Q6|refine Q5 ?_ Jd.out|refine Q5 ?_ Jl.out)|exact HB.out)));(case side4=>exact ZE.out);(case side5=>exact Kd.C_below Z6.out (by repeat (first|(with_reducible first|exact HB.out|apply Q3|apply Q1|apply Q6|refine Q5 ?_ Jd.out|refine Q5 ?_ Jl.out)|exact HB.out)));(case side6=>exact ZF.out);rintro e w19 ⟨rfl,hb⟩;refine ⟨_,rfl,?_⟩;have n0_:=Q0.mk (Qf (g:=Jg) (o:=.cells #[.slice QC Qa.length Qs,.slice QA Qe.length Qt,.slice QE Qb.length Qu,.int .i64 Y0,.int .i64 QU] 39 (0,0)) (by (with_reducible repeat (first|refine Q4 ?_ _|refine Q7 ?_|refine Q2 ?_ _));refine Qp ?_ ZX.out _;(with_reducible repeat (first|refine Q4 ?_ _|refine Q7 ?_|refine Q2 ?_ _));refine Qp ?_ ZX.out _;(with_reducible repeat (first|refine Q4 ?_ _|refine Q7 ?_|refine Q2 ?_ _));refine Qp ?_ ZX.out _;(with_reducible repeat (first|refine Q4 ?_ _|refine Q7 ?_|refine Q2 ?_ _));refine Qp ?_ ZX.out _;(with_reducible repeat (first|refine Q4 ?_ _|refine Q7 ?_|refine Q2 ?_ _));refine Qp ?_ ZX.out _;(with_reducible repeat (first|refine Q4 ?_ _|refine Q7 ?_|refine Q2 ?_ _));exact YW.out) hb);have n1_:=Q0.mk (Qf (g:=YZ) (o:=.cells #[.slice QC Qa.length Qs,.slice QA Qe.length Qt,.slice QE Qb.length Qu,.int .i64 Y0,.int .i64 QU] 111 (0,0)) (by (with_reducible repeat (first|refine Q4 ?_ _|refine Q7 ?_|refine Q2 ?_ _));refine QH (cs:=#[.slice QC Qa.length Qs,.slice QA Qe.length Qt,.slice QE Qb.length Qu,.int .i64 Y0,.int .i64 0]) ?_ 4 _ rfl;(with_reducible repeat (first|refine Q4 ?_ _|refine Q7 ?_|refine Q2 ?_ _));refine QH (cs:=#[.slice QC Qa.length Qs,.slice QA Qe.length Qt,.slice QE Qb.length Qu,.int .i64 0,.int .i64 0]) ?_ 3 _ rfl;(with_reducible repeat (first|refine Q4 ?_ _|refine Q7 ?_|refine Q2 ?_ _));refine QH (cs:=#[.slice QC Qa.length Qs,.slice QA Qe.length Qt,.slice none 0 0,.int .i64 0,.int .i64 0]) ?_ 2 _ rfl;(with_reducible repeat (first|refine Q4 ?_ _|refine Q7 ?_|refine Q2 ?_ _));refine QH (cs:=#[.slice QC Qa.length Qs,.slice none 0 0,.slice none 0 0,.int .i64 0,.int .i64 0]) ?_ 1 _ rfl;(with_reducible repeat (first|refine Q4 ?_ _|refine Q7 ?_|refine Q2 ?_ _));refine QH (cs:=#[.slice none 0 0,.slice none 0 0,.slice none 0 0,.int .i64 0,.int .i64 0]) ?_ 0 _ rfl;(with_reducible repeat (first|refine Q4 ?_ _|refine Q7 ?_|refine Q2 ?_ _));exact Yd.out) hb);have n2_:=Q0.mk (Qk (by repeat (first|(with_reducible first|exact HB.out|apply Q3|apply Q1|apply Q6|refine Q5 ?_ Jd.out|refine Q5 ?_ Jl.out)|exact HB.out)) hb);clear YW Yd HB;have YW:=n0_;have Yd:=n1_;have HB:=n2_;clear n0_ n1_ n2_;(try clear hb);(try clear hb2);(try clear hk);(try clear hi))|(go_at_call 65;(with_reducible refine (Qm.calls (l1.length:Int) 1 10 false _ A12.out).mono ?_);rintro e w' ⟨rfl,⟨nd,rfl⟩⟩))
   go_meet
   case rel=>exact ⟨_,(false),(by first|rfl|(simp;done)|(simp [*];done)),H',⟨by first|omega|exact Nat.le_refl _⟩,⟨by (with_reducible repeat (first|refine Q4 ?_ _|refine Q7 ?_|refine Q2 ?_ _));exact YW.out⟩,⟨by (with_reducible repeat (first|refine Q4 ?_ _|refine Q7 ?_|refine Q2 ?_ _));exact Yd.out⟩,⟨by repeat (first|(with_reducible first|exact HB.out|apply Q3|apply Q1|apply Q6|refine Q5 ?_ Jd.out|refine Q5 ?_ Jl.out)|exact HB.out)⟩⟩
  replace c11:=Bool.eq_false_iff.mpr c11
  subst c11
  have H1:(Qw.j0 k l1 l2 false Qa Qe Qb Y0 QU)=some (r1,r2):=by rw [if_neg (show ¬ (false=true) by decide)] at H;exact H
  clear H
  have H:=H1
  clear H1
  have H':=Q0.mk H
  clear H
  have qxD:=Wx.out
  have qxR:=ZX.out
  have Up:w7.cell? ⟨YZ,0,none⟩=some (.slice none 0 0):=(Q8 Yd.out 0).trans rfl
  have Uq:w7.cell? ⟨YZ,1,none⟩=some (.slice none 0 0):=(Q8 Yd.out 1).trans rfl
  have Ur:w7.cell? ⟨YZ,2,none⟩=some (.slice none 0 0):=(Q8 Yd.out 2).trans rfl
  have qdn:w7.cell? ⟨YZ,3,none⟩=some (.int .i64 0):=(Q8 Yd.out 3).trans rfl
  have qdo:w7.cell? ⟨YZ,4,none⟩=some (.int .i64 0):=(Q8 Yd.out 4).trans rfl
  have Us:=Q9 Yd.out 0
  have Ut:=Q9 Yd.out 1
  have Uu:=Q9 Yd.out 2
  have qdz:=Q9 Yd.out 3
  have qdA:=Q9 Yd.out 4
  go_wp2_with (first|((with_reducible refine QD (f:=76) rfl ?_);refine YC (some 20) rfl rfl Try.func76 (by kernel_rfl) rfl #[.agg #[.slice QC Qa.length Qs,.slice QA Qe.length Qt,.slice QE Qb.length Qu,.int .i64 Y0,.int .i64 QU]] rfl (by (try simp only [List.map_toArray,List.map_cons,List.map_nil]);first|done|rfl|(simp only [List.length_drop,List.length_take];rfl)) ?_;(with_reducible refine (Qh.calls k _ _ Qa _ _ Qe _ _ Qb Y0 QU false _ ?side1 ?side2 ?side3 ?side4 ?side5 ?side6 A10.out).mono ?_);(case side1=>exact Kd.C_below Z5.out (by repeat (first|(with_reducible first|exact HB.out|apply Q3|apply Q1|apply Q6|refine Q5 ?_ Jd.out|refine Q5 ?_ Jl.out)|exact HB.out)));(case side2=>exact ZD.out);(case side3=>exact Kd.C_below Zj.out (by repeat (first|(with_reducible first|exact HB.out|apply Q3|apply Q1|apply Q6|refine Q5 ?_ Jd.out|refine Q5 ?_ Jl.out)|exact HB.out)));(case side4=>exact ZE.out);(case side5=>exact Kd.C_below Z6.out (by repeat (first|(with_reducible first|exact HB.out|apply Q3|apply Q1|apply Q6|refine Q5 ?_ Jd.out|refine Q5 ?_ Jl.out)|exact HB.out)));(case side6=>exact ZF.out);rintro e w22 ⟨rfl,hb⟩;refine ⟨_,rfl,?_⟩;have n0_:=Q0.mk (Qf (g:=Jg) (o:=.cells #[.slice QC Qa.length Qs,.slice QA Qe.length Qt,.slice QE Qb.length Qu,.int .i64 Y0,.int .i64 QU] 39 (0,0)) (by (with_reducible repeat (first|refine Q4 ?_ _|refine Q7 ?_|refine Q2 ?_ _));refine Qp ?_ ZX.out _;(with_reducible repeat (first|refine Q4 ?_ _|refine Q7 ?_|refine Q2 ?_ _));refine Qp ?_ ZX.out _;(with_reducible repeat (first|refine Q4 ?_ _|refine Q7 ?_|refine Q2 ?_ _));refine Qp ?_ ZX.out _;(with_reducible repeat (first|refine Q4 ?_ _|refine Q7 ?_|refine Q2 ?_ _));refine Qp ?_ ZX.out _;(with_reducible repeat (first|refine Q4 ?_ _|refine Q7 ?_|refine Q2 ?_ _));refine Qp ?_ ZX.out _;(with_reducible repeat (first|refine Q4 ?_ _|refine Q7 ?_|refine Q2 ?_ _));exact YW.out) hb);have n1_:=Q0.mk (Qf (g:=YZ) (o:=.cells #[.slice QC Qa.length Qs,.slice QA Qe.length Qt,.slice QE Qb.length Qu,.int .i64 Y0,.int .i64 QU] 111 (0,0)) (by (with_reducible repeat (first|refine Q4 ?_ _|refine Q7 ?_|refine Q2 ?_ _));refine QH (cs:=#[.slice QC Qa.length Qs,.slice QA Qe.length Qt,.slice QE Qb.length Qu,.int .i64 Y0,.int .i64 0]) ?_ 4 _ rfl;(with_reducible repeat (first|refine Q4 ?_ _|refine Q7 ?_|refine Q2 ?_ _));refine QH (cs:=#[.slice QC Qa.length Qs,.slice QA Qe.length Qt,.slice QE Qb.length Qu,.int .i64 0,.int .i64 0]) ?_ 3 _ rfl;(with_reducible repeat (first|refine Q4 ?_ _|refine Q7 ?_|refine Q2 ?_ _));refine QH (cs:=#[.slice QC Qa.length Qs,.slice QA Qe.length Qt,.slice none 0 0,.int .i64 0,.int .i64 0]) ?_ 2 _ rfl;(with_reducible repeat (first|refine Q4 ?_ _|refine Q7 ?_|refine Q2 ?_ _));refine QH (cs:=#[.slice QC Qa.length Qs,.slice none 0 0,.slice none 0 0,.int .i64 0,.int .i64 0]) ?_ 1 _ rfl;(with_reducible repeat (first|refine Q4 ?_ _|refine Q7 ?_|refine Q2 ?_ _));refine QH (cs:=#[.slice none 0 0,.slice none 0 0,.slice none 0 0,.int .i64 0,.int .i64 0]) ?_ 0 _ rfl;(with_reducible repeat (first|refine Q4 ?_ _|refine Q7 ?_|refine Q2 ?_ _));exact Yd.out) hb);have n2_:=Q0.mk (Qk (by repeat (first|(with_reducible first|exact HB.out|apply Q3|apply Q1|apply Q6|refine Q5 ?_ Jd.out|refine Q5 ?_ Jl.out)|exact HB.out)) hb);clear YW Yd HB;have YW:=n0_;have Yd:=n1_;have HB:=n2_;clear n0_ n1_ n2_;(try clear hb);(try clear hb2);(try clear hk);(try clear hi)))
  go_meet
  case rel=>exact ⟨_,(false),(by first|rfl|(simp;done)|(simp [*];done)),H',⟨by first|omega|exact Nat.le_refl _⟩,⟨by (with_reducible repeat (first|refine Q4 ?_ _|refine Q7 ?_|refine Q2 ?_ _));exact YW.out⟩,⟨by (with_reducible repeat (first|refine Q4 ?_ _|refine Q7 ?_|refine Q2 ?_ _));exact Yd.out⟩,⟨by repeat (first|(with_reducible first|exact HB.out|apply Q3|apply Q1|apply Q6|refine Q5 ?_ Jd.out|refine Q5 ?_ Jl.out)|exact HB.out)⟩⟩
 case rest =>
  clear HC4
  try clear c1
  try clear c2
  try clear p2
  try clear c7
  try clear c8
  try clear c11
  try clear c13
  try clear c14
  try clear c17
  try clear c20
  try clear Gu
  try clear Gv
  try clear Ka
  try clear UU
  try clear UV
  try clear Gw
  try clear Gx
  try clear Gy
  try clear qdl
  try clear qdm
  try clear Up
  try clear Uq
  try clear Ur
  try clear qdn
  try clear qdo
  try clear qaW
  try clear qaX
  try clear qcE
  try clear qgc
  try clear qgd
  try clear KZ
  try clear O0
  try clear O1
  try clear qge
  try clear qgf
  try clear Gz
  try clear GA
  try clear Kh
  try clear UZ
  try clear W4
  try clear GC
  try clear GD
  try clear GE
  try clear qdx
  try clear qdy
  try clear Us
  try clear Ut
  try clear Uu
  try clear qdz
  try clear qdA
  try clear qa0
  try clear qa1
  try clear qcF
  try clear qgB
  try clear qgC
  try clear O2
  try clear O3
  try clear O4
  try clear qgD
  try clear qgE
  obtain ⟨kq,qr4,rfl,HA,HJ3,YW,Yd,HB⟩:=hcut
  cases kq with
  | zero=>exact absurd HA.out (by simp [Qw.j0])
  | succ kj3 =>
   have H:=HA.out
   clear HA
   simp only [Qw.j0] at H
   have H':=Q0.mk H
   clear H
   go_wp2
   go_loopg [9,10] kj3 (fun kq v9 v10 w' => ∃ (qkF:Bool) (J3:Int),v9 = .bool qkF∧v10 = .int .i64 J3∧Q0 (Qw.l0 kq l1 l2 qkF J3 Qa Qe Qb Y0 QU=some (r1,r2))∧Q0 (kq≤kj3)∧Q0 (w'.heap[Jg]? = some (.cells #[(.slice QC Qa.length Qs),(.slice QA Qe.length Qt),(.slice QE Qb.length Qu),.int .i64 Y0,.int .i64 QU] 39 (0,0)))∧Q0 (w'.heap[YZ]? = some (.cells #[(.slice QC Qa.length Qs),(.slice QA Qe.length Qt),(.slice QE Qb.length Qu),.int .i64 Y0,.int .i64 QU] 111 (0,0)))∧Q0 (Below w.heap.size w w'))
   case atStart=>exact ⟨(qr4),(0),(by first|rfl|(simp;done)|(simp [*];done)),(by first|rfl|(simp;done)|(simp [*];done)),H',⟨Nat.le_refl _⟩,⟨by (with_reducible repeat (first|refine Q4 ?_ _|refine Q7 ?_|refine Q2 ?_ _));exact YW.out⟩,⟨by (with_reducible repeat (first|refine Q4 ?_ _|refine Q7 ?_|refine Q2 ?_ _));exact Yd.out⟩,⟨by repeat (first|(with_reducible first|exact HB.out|apply Q3|apply Q1|apply Q6|refine Q5 ?_ Jd.out|refine Q5 ?_ Jl.out)|exact HB.out)⟩⟩
   case round =>
    clear H';(try clear c1);(try clear c2);(try clear p2);(try clear c7);(try clear c8);(try clear c11);(try clear c13);(try clear c14);(try clear c17);(try clear c20);(try clear Gu);(try clear Gv);(try clear Ka);(try clear UU);(try clear UV);(try clear Gw);(try clear Gx);(try clear Gy);(try clear qdl);(try clear qdm);(try clear Up);(try clear Uq);(try clear Ur);(try clear qdn);(try clear qdo);(try clear qaW);(try clear qaX);(try clear qcE);(try clear qgc);(try clear qgd);(try clear KZ);(try clear O0);(try clear O1);(try clear qge);(try clear qgf);(try clear Gz);(try clear GA);(try clear Kh);(try clear UZ);(try clear W4);(try clear GC);(try clear GD);(try clear GE);(try clear qdx);(try clear qdy);(try clear Us);(try clear Ut);(try clear Uu);(try clear qdz);(try clear qdA);(try clear qa0);(try clear qa1);(try clear qcF);(try clear qgB);(try clear qgC);(try clear O2);(try clear O3);(try clear O4);(try clear qgD);(try clear qgE);(try clear p2);obtain ⟨qkF,J3,rfl,rfl,HA,HK2,YW,Yd,HB⟩:=hrel
    cases gk with
    | zero=>exact absurd HA.out (by simp [Qw.l0])
    | succ k2 =>
     have H:=HA.out;clear HA;simp only [Qw.l0] at H;have qjh:=Q0.mk H;clear H
     go_upto_region 4 with (fail)
     go_cut [39] (fun v39 wc => ∃ (kq:Nat) (qhl:Bool),v39 = .bool qhl∧Q0 (Qw.j2 kq l1 l2 qkF J3 qhl Qa Qe Qb Y0 QU=some (r1,r2))∧Q0 (kq≤k2)∧Q0 (wc.heap[Jg]? = some (.cells #[(.slice QC Qa.length Qs),(.slice QA Qe.length Qt),(.slice QE Qb.length Qu),.int .i64 Y0,.int .i64 QU] 39 (0,0)))∧Q0 (wc.heap[YZ]? = some (.cells #[(.slice QC Qa.length Qs),(.slice QA Qe.length Qt),(.slice QE Qb.length Qu),.int .i64 Y0,.int .i64 QU] 111 (0,0)))∧Q0 (Below w.heap.size w wc))
     case first =>
      have H:=qjh.out;clear qjh
      by_cases c24:qkF=true
      ·
       subst c24
       have H1:(Qw.j2 k2 l1 l2 true J3 (decide (J3<(l1.length:Int))) Qa Qe Qb Y0 QU)=some (r1,r2):=by rw [if_pos rfl] at H;exact H
       clear H;have H:=H1;clear H1;have H':=Q0.mk H;clear H
       go_wp2
       go_meet
       case rel=>exact ⟨_,(decide (J3<(l1.length:Int))),(by first|rfl|(simp;done)|(simp [*];done)),H',⟨by have:=HJ3.out;have:=HK2.out;first|omega|exact Nat.le_refl _⟩,⟨by (with_reducible repeat (first|refine Q4 ?_ _|refine Q7 ?_|refine Q2 ?_ _));exact YW.out⟩,⟨by (with_reducible repeat (first|refine Q4 ?_ _|refine Q7 ?_|refine Q2 ?_ _));exact Yd.out⟩,⟨by repeat (first|(with_reducible first|exact HB.out|apply Q3|apply Q1|apply Q6|refine Q5 ?_ Jd.out|refine Q5 ?_ Jl.out)|exact HB.out)⟩⟩
      replace c24:=Bool.eq_false_iff.mpr c24;subst c24
      have H1:(Qw.j2 k2 l1 l2 false J3 false Qa Qe Qb Y0 QU)=some (r1,r2):=by rw [if_neg (show ¬ (false=true) by decide)] at H;exact H
      clear H;have H:=H1;clear H1;have H':=Q0.mk H;clear H
      go_wp2
      go_meet
      case rel=>exact ⟨_,(false),(by first|rfl|(simp;done)|(simp [*];done)),H',⟨by have:=HJ3.out;have:=HK2.out;first|omega|exact Nat.le_refl _⟩,⟨by (with_reducible repeat (first|refine Q4 ?_ _|refine Q7 ?_|refine Q2 ?_ _));exact YW.out⟩,⟨by (with_reducible repeat (first|refine Q4 ?_ _|refine Q7 ?_|refine Q2 ?_ _));exact Yd.out⟩,⟨by repeat (first|(with_reducible first|exact HB.out|apply Q3|apply Q1|apply Q6|refine Q5 ?_ Jd.out|refine Q5 ?_ Jl.out)|exact HB.out)⟩⟩
     case rest =>
      clear qjh;(try clear c1);(try clear c2);(try clear p2);(try clear c7);(try clear c8);(try clear c11);(try clear c13);(try clear c14);(try clear c17);(try clear c20);(try clear c24);(try clear Gu);(try clear Gv);(try clear Ka);(try clear UU);(try clear UV);(try clear Gw);(try clear Gx);(try clear Gy);(try clear qdl);(try clear qdm);(try clear Up);(try clear Uq);(try clear Ur);(try clear qdn);(try clear qdo);(try clear qaW);(try clear qaX);(try clear qcE);(try clear qgc);(try clear qgd);(try clear KZ);(try clear O0);(try clear O1);(try clear qge);(try clear qgf);(try clear Gz);(try clear GA);(try clear Kh);(try clear UZ);(try clear W4);(try clear GC);(try clear GD);(try clear GE);(try clear qdx);(try clear qdy);(try clear Us);(try clear Ut);(try clear Uu);(try clear qdz);(try clear qdA);(try clear qa0);(try clear qa1);(try clear qcF);(try clear qgB);(try clear qgC);(try clear O2);(try clear O3);(try clear O4);(try clear qgD);(try clear qgE);(try clear p2);obtain ⟨kq,qhl,rfl,HA,Wk,YW,Yd,HB⟩:=hcut
      cases kq with
      | zero=>exact absurd HA.out (by simp [Qw.j2])
      | succ XF =>
       have H:=HA.out;clear HA;simp only [Qw.j2] at H
       by_cases c25:qhl=true
       ·
        subst c25
        have H1:(if 0≤J3 then (if J3<(l1.length:Int) then ((Qm.f (rd l1 J3) 0 100000000).bind fun t159=>(if t159=true then (if J3<(l2.length:Int) then ((Qm.f (rd l2 J3) 0 100000).bind fun qeF=>(Qw.l0 XF l1 l2 qeF (wrap64 (J3+1)) Qa Qe Qb Y0 QU)) else (none)) else (Qw.l0 XF l1 l2 false (wrap64 (J3+1)) Qa Qe Qb Y0 QU))) else (none)) else (none))=some (r1,r2):=by rw [if_pos rfl] at H;exact H
        clear H;have H:=H1;clear H1
        by_cases c26:0≤J3
        ·
         rw [if_pos c26] at H;have c26b0:decide (0≤J3)=true:=decide_eq_true c26;clear c26
         by_cases c27:J3<(l1.length:Int)
         ·
          rw [if_pos c27] at H;have c27b0:decide (J3<(l1.length:Int))=true:=decide_eq_true c27;clear c27;replace H:=Option.bind_eq_some_iff.mp H;obtain ⟨t159,qu4,H⟩:=H;replace H:(if t159=true then (if J3<(l2.length:Int) then ((Qm.f (rd l2 J3) 0 100000).bind fun qeF=>(Qw.l0 XF l1 l2 qeF (wrap64 (J3+1)) Qa Qe Qb Y0 QU)) else (none)) else (Qw.l0 XF l1 l2 false (wrap64 (J3+1)) Qa Qe Qb Y0 QU))=some (r1,r2):=H;have A28:=Q0.mk qu4;clear qu4
          by_cases c29:t159=true
          ·
           subst c29
           have H1:(if J3<(l2.length:Int) then ((Qm.f (rd l2 J3) 0 100000).bind fun qeF=>(Qw.l0 XF l1 l2 qeF (wrap64 (J3+1)) Qa Qe Qb Y0 QU)) else (none))=some (r1,r2):=by rw [if_pos rfl] at H;exact H
           clear H;have H:=H1;clear H1
           by_cases c30:J3<(l2.length:Int)
           ·
            rw [if_pos c30] at H;have c30b0:decide (J3<(l2.length:Int))=true:=decide_eq_true c30;clear c30;replace H:=Option.bind_eq_some_iff.mp H;obtain ⟨qeF,qnA,H⟩:=H;replace H:(Qw.l0 XF l1 l2 qeF (wrap64 (J3+1)) Qa Qe Qb Y0 QU)=some (r1,r2):=H;have A31:=Q0.mk qnA;clear qnA;have H':=Q0.mk H;clear H;have qit:0≤(J3:Int):=of_decide_eq_true (by first|(with_reducible assumption)|assumption);have qiv:J3<(l1.length:Int):=of_decide_eq_true (by first|(with_reducible assumption)|assumption);obtain ⟨qvV,qtJ,W5⟩:=Kd.at_int HR1.out J3 qit qiv;cases qtJ;replace W5:=(HB.out.cell (World.block_lt_of_cell? w _ W5)).trans W5;replace qit:=eq_true qit;replace qiv:=eq_true qiv
            go_wp2_with (first|((with_reducible refine QD (f:=65) rfl ?_);refine YC (some 46) rfl rfl Try.func65 (by kernel_rfl) rfl #[.int .i64 (rd l1 J3),.int .i64 0,.int .i64 100000000] rfl (by (try simp only [List.map_toArray,List.map_cons,List.map_nil]);first|done|rfl|(simp only [List.length_drop,List.length_take];rfl)) ?_;(with_reducible refine (Qm.calls (rd l1 J3) 0 100000000 true _ A28.out).mono ?_);rintro e w' ⟨rfl,⟨nd,rfl⟩⟩;refine ⟨_,rfl,?_⟩;have qrC:0≤(J3:Int):=of_decide_eq_true (by first|(with_reducible assumption)|assumption);have qrK:J3<(l2.length:Int):=of_decide_eq_true (by first|(with_reducible assumption)|assumption);obtain ⟨qGv,qEO,qd0⟩:=Kd.at_int HR2.out J3 qrC qrK;cases qEO;replace qd0:=(HB.out.cell (World.block_lt_of_cell? w _ qd0)).trans qd0;replace qrC:=eq_true qrC;replace qrK:=eq_true qrK)|(go_at_call 65;(with_reducible refine (Qm.calls (rd l2 J3) 0 100000 qeF _ A31.out).mono ?_);rintro e w' ⟨rfl,⟨nd,rfl⟩⟩))
            go_roundg XF
            case measure=>have:=HJ3.out;have:=HK2.out;have:=Wk.out;omega
            case rel=>exact ⟨(qeF),(wrap64 (J3+1)),(by first|rfl|(simp;done)|(simp [*];done)),(by first|rfl|(simp;done)|(simp [*];done)),H',⟨by have:=HJ3.out;have:=HK2.out;have:=Wk.out;omega⟩,⟨by (with_reducible repeat (first|refine Q4 ?_ _|refine Q7 ?_|refine Q2 ?_ _));exact YW.out⟩,⟨by (with_reducible repeat (first|refine Q4 ?_ _|refine Q7 ?_|refine Q2 ?_ _));exact Yd.out⟩,⟨by repeat (first|(with_reducible first|exact HB.out|apply Q3|apply Q1|apply Q6|refine Q5 ?_ Jd.out|refine Q5 ?_ Jl.out)|exact HB.out)⟩⟩
           rw [if_neg c30] at H
           exact absurd H (by simp)
          replace c29:=Bool.eq_false_iff.mpr c29;subst c29
          have H1:(Qw.l0 XF l1 l2 false (wrap64 (J3+1)) Qa Qe Qb Y0 QU)=some (r1,r2):=by rw [if_neg (show ¬ (false=true) by decide)] at H;exact H
          clear H;have H:=H1;clear H1;have H':=Q0.mk H;clear H;have qit:0≤(J3:Int):=of_decide_eq_true (by first|(with_reducible assumption)|assumption);have qiv:J3<(l1.length:Int):=of_decide_eq_true (by first|(with_reducible assumption)|assumption);obtain ⟨qvV,qtJ,W5⟩:=Kd.at_int HR1.out J3 qit qiv;cases qtJ;replace W5:=(HB.out.cell (World.block_lt_of_cell? w _ W5)).trans W5;replace qit:=eq_true qit;replace qiv:=eq_true qiv
          go_wp2_with (first|((with_reducible refine QD (f:=65) rfl ?_);refine YC (some 46) rfl rfl Try.func65 (by kernel_rfl) rfl #[.int .i64 (rd l1 J3),.int .i64 0,.int .i64 100000000] rfl (by (try simp only [List.map_toArray,List.map_cons,List.map_nil]);first|done|rfl|(simp only [List.length_drop,List.length_take];rfl)) ?_;(with_reducible refine (Qm.calls (rd l1 J3) 0 100000000 false _ A28.out).mono ?_);rintro e w' ⟨rfl,⟨nd,rfl⟩⟩;refine ⟨_,rfl,?_⟩))
          go_roundg XF
          case measure=>have:=HJ3.out;have:=HK2.out;have:=Wk.out;omega
          case rel=>exact ⟨(false),(wrap64 (J3+1)),(by first|rfl|(simp;done)|(simp [*];done)),(by first|rfl|(simp;done)|(simp [*];done)),H',⟨by have:=HJ3.out;have:=HK2.out;have:=Wk.out;omega⟩,⟨by (with_reducible repeat (first|refine Q4 ?_ _|refine Q7 ?_|refine Q2 ?_ _));exact YW.out⟩,⟨by (with_reducible repeat (first|refine Q4 ?_ _|refine Q7 ?_|refine Q2 ?_ _));exact Yd.out⟩,⟨by repeat (first|(with_reducible first|exact HB.out|apply Q3|apply Q1|apply Q6|refine Q5 ?_ Jd.out|refine Q5 ?_ Jl.out)|exact HB.out)⟩⟩
         rw [if_neg c27] at H
         exact absurd H (by simp)
        rw [if_neg c26] at H
        exact absurd H (by simp)
       replace c25:=Bool.eq_false_iff.mpr c25;subst c25
       have H1:(if qkF=true then ((Z2.f Qa Qe Qb Y0 QU).bind fun O9=>(Qw.l1 XF l1 l2 ([]:List Int) (l1.length:Int) 0 Qa Qe Qb Y0 QU O9.1 O9.2.1 O9.2.2.1 O9.2.2.2.1 O9.2.2.2.2.1 O9.2.2.2.2.2)) else (some (([]:List Int),92)))=some (r1,r2):=by rw [if_neg (show ¬ (false=true) by decide)] at H;exact H
       clear H;have H:=H1;clear H1
       by_cases c32:qkF=true
       ·
        subst c32
        have H1:((Z2.f Qa Qe Qb Y0 QU).bind fun O9=>(Qw.l1 XF l1 l2 ([]:List Int) (l1.length:Int) 0 Qa Qe Qb Y0 QU O9.1 O9.2.1 O9.2.2.1 O9.2.2.2.1 O9.2.2.2.2.1 O9.2.2.2.2.2))=some (r1,r2):=by rw [if_pos rfl] at H;exact H
        clear H;have H:=H1;clear H1;replace H:=Option.bind_eq_some_iff.mp H;obtain ⟨⟨t162,qkv,t164,qpe,qrU,t167⟩,qu7,H⟩:=H;replace H:(Qw.l1 XF l1 l2 ([]:List Int) (l1.length:Int) 0 Qa Qe Qb Y0 QU t162 qkv t164 qpe qrU t167)=some (r1,r2):=H;have A33:=Q0.mk qu7;clear qu7;have H':=Q0.mk H;clear H;have qHb:=Wx.out;have qHT:=ZX.out;have qqa:wc.cell? ⟨YZ,0,none⟩=some (.slice QC Qa.length Qs):=(Q8 Yd.out 0).trans rfl;have qqb:wc.cell? ⟨YZ,1,none⟩=some (.slice QA Qe.length Qt):=(Q8 Yd.out 1).trans rfl;have qqc:wc.cell? ⟨YZ,2,none⟩=some (.slice QE Qb.length Qu):=(Q8 Yd.out 2).trans rfl;have qqd:wc.cell? ⟨YZ,3,none⟩=some (.int .i64 Y0):=(Q8 Yd.out 3).trans rfl;have qqe:wc.cell? ⟨YZ,4,none⟩=some (.int .i64 QU):=(Q8 Yd.out 4).trans rfl;have qqO:=Q9 Yd.out 0;have qqP:=Q9 Yd.out 1;have qqQ:=Q9 Yd.out 2;have qqR:=Q9 Yd.out 3;have qqS:=Q9 Yd.out 4
        go_wp2_with (first|((with_reducible refine QD (f:=78) rfl ?_);refine YC (some 57) rfl rfl Try.func78 (by kernel_rfl) rfl #[.agg #[.slice QC Qa.length Qs,.slice QA Qe.length Qt,.slice QE Qb.length Qu,.int .i64 Y0,.int .i64 QU]] rfl (by (try simp only [List.map_toArray,List.map_cons,List.map_nil]);first|done|rfl|(simp only [List.length_drop,List.length_take];rfl)) ?_;(with_reducible refine (Z2.calls _ _ Qa _ _ Qe _ _ Qb Y0 QU t162 qkv t164 qpe qrU t167 _ ?side1 ?side2 ?side3 ?side4 ?side5 ?side6 A33.out).mono ?_);(case side1=>repeat (first|exact (Kd.C_below Z5.out HB.out)|(with_reducible refine Kd.C_alloc ?_ _)|(with_reducible refine Kd.C_drewN ?_ _)|(with_reducible refine Kd.C_drew ?_)));(case side2=>exact ZD.out);(case side3=>repeat (first|exact (Kd.C_below Zj.out HB.out)|(with_reducible refine Kd.C_alloc ?_ _)|(with_reducible refine Kd.C_drewN ?_ _)|(with_reducible refine Kd.C_drew ?_)));(case side4=>exact ZE.out);(case side5=>repeat (first|exact (Kd.C_below Z6.out HB.out)|(with_reducible refine Kd.C_alloc ?_ _)|(with_reducible refine Kd.C_drewN ?_ _)|(with_reducible refine Kd.C_drew ?_)));(case side6=>exact ZF.out);rintro e w36 ⟨rfl,hb⟩;refine ⟨_,rfl,?_⟩;have n0_:=Q0.mk (Qf (g:=Jg) (by (with_reducible repeat (first|refine Q4 ?_ _|refine Q7 ?_|refine Q2 ?_ _));exact YW.out) hb);have n1_:=Q0.mk (Qf (g:=YZ) (by (with_reducible repeat (first|refine Q4 ?_ _|refine Q7 ?_|refine Q2 ?_ _));exact Yd.out) hb);have n2_:=Q0.mk (Qk (by repeat (first|(with_reducible first|exact HB.out|apply Q3|apply Q1|apply Q6|refine Q5 ?_ Jd.out|refine Q5 ?_ Jl.out)|exact HB.out)) hb);clear YW Yd HB;have YW:=n0_;have Yd:=n1_;have HB:=n2_;clear n0_ n1_ n2_;(try clear hb);(try clear hb2);(try clear hk);(try clear hi))|((with_reducible refine QZ (N:=12) rfl ?_);(try (refine Jn (by rfl) ?_;dsimp only));refine Yp ?hg (N:=12) ?hd (cs:=#[.int .i64 0,.int .i64 0,.int .i64 0,.int .i64 0,.int .i64 0,.int .i64 0]) (t:=115) ?hr ?_;(case hd=>rfl);(case hg=>rfl);(case hr=>first|(go_simp;done)|(go_simp;rfl));intro Yz hg w37 hbox hb;have n0_:=Q0.mk (Qf (g:=Jg) (by (with_reducible repeat (first|refine Q4 ?_ _|refine Q7 ?_|refine Q2 ?_ _));exact YW.out) hb);have n1_:=Q0.mk (Qf (g:=YZ) (by (with_reducible repeat (first|refine Q4 ?_ _|refine Q7 ?_|refine Q2 ?_ _));exact Yd.out) hb);have n2_:=Q0.mk (Qk (by repeat (first|(with_reducible first|exact HB.out|apply Q3|apply Q1|apply Q6|refine Q5 ?_ Jd.out|refine Q5 ?_ Jl.out)|exact HB.out)) hb);have n3_:=Q0.mk (hbox);have n4_:=Q0.mk ((by rw [hg];exact (Qi (by repeat (first|(with_reducible first|exact HB.out|apply Q3|apply Q1|apply Q6|refine Q5 ?_ Jd.out|refine Q5 ?_ Jl.out)|exact HB.out))):w.heap.size≤Yz));have n5_:=n4_;have n6_:=Q0.mk ((by rw [hg];exact Nat.ne_of_lt (QT (g:=Jg) (by (with_reducible repeat (first|refine Q4 ?_ _|refine Q7 ?_|refine Q2 ?_ _));exact YW.out)):Jg≠Yz));have n7_:=Q0.mk (n6_.out.symm);have n8_:=Q0.mk ((by rw [hg];exact Nat.ne_of_lt (QT (g:=YZ) (by (with_reducible repeat (first|refine Q4 ?_ _|refine Q7 ?_|refine Q2 ?_ _));exact Yd.out)):YZ≠Yz));have n9_:=Q0.mk (n8_.out.symm);clear YW Yd HB;have YW:=n0_;have Yd:=n1_;have HB:=n2_;have YE:=n3_;have qGg:=n4_;have Ug:=n5_;have J4:=n6_;have OI:=n7_;have J6:=n8_;have OJ:=n9_;clear n0_ n1_ n2_ n3_ n4_ n5_ n6_ n7_ n8_ n9_ hb hbox hg;have qHd:=OI.out;have qHV:=J4.out;have qsP:=OJ.out;have qsR:=J6.out;have qdp:w37.cell? ⟨Yz,0,none⟩=some (.int .i64 0):=(Q8 YE.out 0).trans rfl;have qdq:w37.cell? ⟨Yz,1,none⟩=some (.int .i64 0):=(Q8 YE.out 1).trans rfl;have qdr:w37.cell? ⟨Yz,2,none⟩=some (.int .i64 0):=(Q8 YE.out 2).trans rfl;have qql:w37.cell? ⟨Yz,3,none⟩=some (.int .i64 0):=(Q8 YE.out 3).trans rfl;have qqm:w37.cell? ⟨Yz,4,none⟩=some (.int .i64 0):=(Q8 YE.out 4).trans rfl;have qqn:w37.cell? ⟨Yz,5,none⟩=some (.int .i64 0):=(Q8 YE.out 5).trans rfl;have qdB:=Q9 YE.out 0;have qdC:=Q9 YE.out 1;have qdD:=Q9 YE.out 2;have qqZ:=Q9 YE.out 3;have qq0:=Q9 YE.out 4;have qq1:=Q9 YE.out 5))
        go_loopg [13,60] XF (fun kq v13 v60 w' => ∃ (Kl:List Int) (Jq:Int) (ZA:Int) (Zr:Int) (Zp:Int) (Zk:Int) (Zh:Int) (Za:Int),v60 = .int .i64 Jq∧Q0 (Qw.l1 kq l1 l2 Kl (l1.length:Int) Jq Qa Qe Qb Y0 QU ZA Zr Zp Zk Zh Za=some (r1,r2))∧Q0 (kq≤XF)∧Q0 (Kd.R (Kd.int .i64) 3 w' w.heap.size (fun k_=>(w.heap.size≤k_)) v13 Kl)∧Q0 (w'.heap[Jg]? = some (.cells #[(.slice QC Qa.length Qs),(.slice QA Qe.length Qt),(.slice QE Qb.length Qu),.int .i64 Y0,.int .i64 QU] 39 (0,0)))∧Q0 (w'.heap[YZ]? = some (.cells #[(.slice QC Qa.length Qs),(.slice QA Qe.length Qt),(.slice QE Qb.length Qu),.int .i64 Y0,.int .i64 QU] 111 (0,0)))∧Q0 (w'.heap[Yz]? = some (.cells #[.int .i64 ZA,.int .i64 Zr,.int .i64 Zp,.int .i64 Zk,.int .i64 Zh,.int .i64 Za] 115 (0,0)))∧Q0 (Below w.heap.size w w'))
        case atStart=>exact ⟨(([]:List Int)),(0),(t162),(qkv),(t164),(qpe),(qrU),(t167),(by first|rfl|(simp;done)|(simp [*];done)),H',⟨Nat.le_refl _⟩,⟨by first|exact Kd.R_nil _ _ _ _ _|exact Kd.N_nil _ _ _ _ _|exact Kd.V_nil _ _ _ _ _|exact Kd.Q_nil _ _ _ _ _|exact Kd.S_nil _ _ _ _ _⟩,⟨by (with_reducible repeat (first|refine Q4 ?_ _|refine Q7 ?_|refine Q2 ?_ _));refine Qp ?_ J4.out _;(with_reducible repeat (first|refine Q4 ?_ _|refine Q7 ?_|refine Q2 ?_ _));refine Qp ?_ J4.out _;(with_reducible repeat (first|refine Q4 ?_ _|refine Q7 ?_|refine Q2 ?_ _));refine Qp ?_ J4.out _;(with_reducible repeat (first|refine Q4 ?_ _|refine Q7 ?_|refine Q2 ?_ _));refine Qp ?_ J4.out _;(with_reducible repeat (first|refine Q4 ?_ _|refine Q7 ?_|refine Q2 ?_ _));refine Qp ?_ J4.out _;(with_reducible repeat (first|refine Q4 ?_ _|refine Q7 ?_|refine Q2 ?_ _));refine Qp ?_ J4.out _;(with_reducible repeat (first|refine Q4 ?_ _|refine Q7 ?_|refine Q2 ?_ _));exact YW.out⟩,⟨by (with_reducible repeat (first|refine Q4 ?_ _|refine Q7 ?_|refine Q2 ?_ _));refine Qp ?_ J6.out _;(with_reducible repeat (first|refine Q4 ?_ _|refine Q7 ?_|refine Q2 ?_ _));refine Qp ?_ J6.out _;(with_reducible repeat (first|refine Q4 ?_ _|refine Q7 ?_|refine Q2 ?_ _));refine Qp ?_ J6.out _;(with_reducible repeat (first|refine Q4 ?_ _|refine Q7 ?_|refine Q2 ?_ _));refine Qp ?_ J6.out _;(with_reducible repeat (first|refine Q4 ?_ _|refine Q7 ?_|refine Q2 ?_ _));refine Qp ?_ J6.out _;(with_reducible repeat (first|refine Q4 ?_ _|refine Q7 ?_|refine Q2 ?_ _));refine Qp ?_ J6.out _;(with_reducible repeat (first|refine Q4 ?_ _|refine Q7 ?_|refine Q2 ?_ _));exact Yd.out⟩,⟨by (with_reducible repeat (first|refine Q4 ?_ _|refine Q7 ?_|refine Q2 ?_ _));refine QH (cs:=#[.int .i64 t162,.int .i64 qkv,.int .i64 t164,.int .i64 qpe,.int .i64 qrU,.int .i64 0]) ?_ 5 _ rfl;(with_reducible repeat (first|refine Q4 ?_ _|refine Q7 ?_|refine Q2 ?_ _));refine QH (cs:=#[.int .i64 t162,.int .i64 qkv,.int .i64 t164,.int .i64 qpe,.int .i64 0,.int .i64 0]) ?_ 4 _ rfl;(with_reducible repeat (first|refine Q4 ?_ _|refine Q7 ?_|refine Q2 ?_ _));refine QH (cs:=#[.int .i64 t162,.int .i64 qkv,.int .i64 t164,.int .i64 0,.int .i64 0,.int .i64 0]) ?_ 3 _ rfl;(with_reducible repeat (first|refine Q4 ?_ _|refine Q7 ?_|refine Q2 ?_ _));refine QH (cs:=#[.int .i64 t162,.int .i64 qkv,.int .i64 0,.int .i64 0,.int .i64 0,.int .i64 0]) ?_ 2 _ rfl;(with_reducible repeat (first|refine Q4 ?_ _|refine Q7 ?_|refine Q2 ?_ _));refine QH (cs:=#[.int .i64 t162,.int .i64 0,.int .i64 0,.int .i64 0,.int .i64 0,.int .i64 0]) ?_ 1 _ rfl;(with_reducible repeat (first|refine Q4 ?_ _|refine Q7 ?_|refine Q2 ?_ _));refine QH (cs:=#[.int .i64 0,.int .i64 0,.int .i64 0,.int .i64 0,.int .i64 0,.int .i64 0]) ?_ 0 _ rfl;(with_reducible repeat (first|refine Q4 ?_ _|refine Q7 ?_|refine Q2 ?_ _));exact YE.out⟩,⟨by repeat (first|(with_reducible first|exact HB.out|apply Q3|apply Q1|apply Q6|refine Q5 ?_ Jd.out|refine Q5 ?_ Jl.out|refine Q5 ?_ Ug.out)|exact HB.out)⟩⟩
        case round =>
         clear H';(try clear c1);(try clear p1);(try clear q1);(try clear hx1);(try clear c2);(try clear p2);(try clear c3);(try clear c6);(try clear p6);(try clear c7);(try clear c8);(try clear c11);(try clear c13);(try clear c14);(try clear p15);(try clear q15);(try clear qJy);(try clear p16);(try clear q16);(try clear hx16);(try clear c17);(try clear c20);(try clear c24);(try clear c25);(try clear c26);(try clear c26b0);(try clear c27);(try clear c27b0);(try clear c29);(try clear c30);(try clear c30b0);(try clear c32);(try clear c34);(try clear c38);(try clear c39);(try clear Gu);(try clear Gv);(try clear Ka);(try clear UU);(try clear UV);(try clear Gw);(try clear Gx);(try clear Gy);(try clear qdl);(try clear qdm);(try clear Up);(try clear Uq);(try clear Ur);(try clear qdn);(try clear qdo);(try clear qqa);(try clear qqb);(try clear qqc);(try clear qqd);(try clear qqe);(try clear qdp);(try clear qdq);(try clear qdr);(try clear qql);(try clear qqm);(try clear qqn);(try clear qaW);(try clear qaX);(try clear qcE);(try clear qgc);(try clear qgd);(try clear KZ);(try clear O0);(try clear O1);(try clear qge);(try clear qgf);(try clear Gz);(try clear GA);(try clear Kh);(try clear UZ);(try clear W4);(try clear GC);(try clear GD);(try clear GE);(try clear qdx);(try clear qdy);(try clear Us);(try clear Ut);(try clear Uu);(try clear qdz);(try clear qdA);(try clear qqO);(try clear qqP);(try clear qqQ);(try clear qqR);(try clear qqS);(try clear qdB);(try clear qdC);(try clear qdD);(try clear qqZ);(try clear qq0);(try clear qq1);(try clear qa0);(try clear qa1);(try clear qcF);(try clear qgB);(try clear qgC);(try clear O2);(try clear O3);(try clear O4);(try clear qgD);(try clear qgE);(try clear W5);(try clear qd0);(try clear qit);(try clear qrC);(try clear p2);(try clear qiv);(try clear qrK);obtain ⟨Kl,Jq,ZA,Zr,Zp,Zk,Zh,Za,rfl,HA,HK4,HO_13,YW,Yd,YE,HB⟩:=hrel
         cases gk with
         | zero=>exact absurd HA.out (by simp [Qw.l1])
         | succ k4 =>
          have H:=HA.out;clear HA;simp only [Qw.l1] at H
          by_cases c41:Jq<(l1.length:Int)
          ·
           rw [if_pos c41] at H;have c41b0:decide (Jq<(l1.length:Int))=true:=decide_eq_true c41;clear c41
           by_cases c42:0≤Jq
           ·
            rw [if_pos c42] at H;have c42b0:decide (0≤Jq)=true:=decide_eq_true c42;clear c42
            by_cases c43:Jq<(l1.length:Int)
            ·
             rw [if_pos c43] at H;have c43b0:decide (Jq<(l1.length:Int))=true:=decide_eq_true c43;clear c43
             by_cases c44:Jq<(l2.length:Int)
             ·
              rw [if_pos c44] at H;have c44b0:decide (Jq<(l2.length:Int))=true:=decide_eq_true c44;clear c44;replace H:=Option.bind_eq_some_iff.mp H;obtain ⟨⟨t171,Oe,t173,Uj,t175,UK,WG⟩,qnB,H⟩:=H;replace H:(if Kl.length<17592186044416 then (Qw.l1 k4 l1 l2 (Kl++[t171]) (l1.length:Int) (wrap64 (Jq+1)) Qa Qe Qb Y0 QU Oe t173 Uj t175 UK WG) else (none))=some (r1,r2):=H;have A45:=Q0.mk qnB;clear qnB
              by_cases c46:Kl.length<17592186044416
              ·
               rw [if_pos c46] at H;have qvK:=Q0.mk c46;clear c46;obtain ⟨qyh,qhZ⟩:∃ y_:List Int,y_=(Kl++[t171]):=⟨_,rfl⟩
               replace H:(Qw.l1 k4 l1 l2 qyh (l1.length:Int) (wrap64 (Jq+1)) Qa Qe Qb Y0 QU Oe t173 Uj t175 UK WG)=some (r1,r2):=by first|(rw [qhZ];with_reducible exact H)|(have H2_:=(Option.bind_some _ _).symm.trans H;rw [qhZ];with_reducible exact H2_)|(have H2_:=(Option.bind_some _ _).symm.trans H;with_reducible exact H2_)|with_reducible exact H|(rw [qhZ];exact H)|exact H
               have qvL:=Q0.mk qhZ;clear qhZ;have H':=Q0.mk H;clear H
               try go_wp2
               have n0_:=Q0.mk (Kd.R_drew HO_13.out);have n1_:=Q0.mk (Q7 YW.out);have n2_:=Q0.mk (Q7 Yd.out);have n3_:=Q0.mk (Q7 YE.out);have n4_:=Q0.mk (Q6 HB.out);clear HO_13 YW Yd YE HB;have HO_13:=n0_;have YW:=n1_;have Yd:=n2_;have YE:=n3_;have HB:=n4_;clear n0_ n1_ n2_ n3_ n4_;have quf:0≤(Jq:Int):=of_decide_eq_true (by first|(with_reducible assumption)|assumption);have quu:Jq<(l1.length:Int):=of_decide_eq_true (by first|(with_reducible assumption)|assumption);obtain ⟨qnX,e169,qb8⟩:=Kd.at_int HR1.out Jq quf quu;have Zv:=qb8;cases e169;replace qb8:=(HB.out.cell (World.block_lt_of_cell? w _ qb8)).trans qb8;replace quf:=eq_true quf;replace quu:=eq_true quu;have qug:0≤(Jq:Int):=of_decide_eq_true (by first|(with_reducible assumption)|assumption);have quv:Jq<(l2.length:Int):=of_decide_eq_true (by first|(with_reducible assumption)|assumption);obtain ⟨qnY,e170,qb9⟩:=Kd.at_int HR2.out Jq qug quv;have Zw:=qb9;cases e170;replace qb9:=(HB.out.cell (World.block_lt_of_cell? w _ qb9)).trans qb9;replace qug:=eq_true qug;replace quv:=eq_true quv;refine Xp (n:=18) (S:=fun w'=>w'.cell? ⟨YZ,0,none⟩=some (.slice QC Qa.length Qs)∧w'.cell? ⟨YZ,1,none⟩=some (.slice QA Qe.length Qt)∧w'.cell? ⟨YZ,2,none⟩=some (.slice QE Qb.length Qu)∧w'.cell? ⟨YZ,3,none⟩=some (.int .i64 Y0)∧w'.cell? ⟨YZ,4,none⟩=some (.int .i64 QU)∧w'.cell? ⟨Yz,0,none⟩=some (.int .i64 ZA)∧w'.cell? ⟨Yz,1,none⟩=some (.int .i64 Zr)∧w'.cell? ⟨Yz,2,none⟩=some (.int .i64 Zp)∧w'.cell? ⟨Yz,3,none⟩=some (.int .i64 Zk)∧w'.cell? ⟨Yz,4,none⟩=some (.int .i64 Zh)∧w'.cell? ⟨Yz,5,none⟩=some (.int .i64 Za)∧w'.cell? (qnX.add (Jq).toNat)=some (.int .i64 (rd l1 Jq))∧w'.cell? (qnY.add (Jq).toNat)=some (.int .i64 (rd l2 Jq))) (ds:=[]) #[false,false,false,false,false,false,false,false,false,false,false,false,false,false,false,false,false,false] (by kernel_rfl) rfl rfl ⟨(Q8 Yd.out 0).trans rfl,(Q8 Yd.out 1).trans rfl,(Q8 Yd.out 2).trans rfl,(Q8 Yd.out 3).trans rfl,(Q8 Yd.out 4).trans rfl,(Q8 YE.out 0).trans rfl,(Q8 YE.out 1).trans rfl,(Q8 YE.out 2).trans rfl,(Q8 YE.out 3).trans rfl,(Q8 YE.out 4).trans rfl,(Q8 YE.out 5).trans rfl,((HB.out.cell (World.block_lt_of_cell? w _ Zv)).trans Zv),((HB.out.cell (World.block_lt_of_cell? w _ Zw)).trans Zw)⟩ (fun hHeld => ?_);refine Oc Qw.tab15 Qw.bits15 (fun HT_ HW_ => ?_)
               generalize wr.drew=w47 at HO_13 YW Yd YE HB qb8 qb9 hHeld ⊢
               refine Yr (i:=0) (N:=some 64) (v:=?_) (a':=?_) #[true,false,false,false,false,false,false,false,false,false,false,false,false,false,false,false,false,false] rfl rfl (Ya HT_.out (by kernel_rfl)) (fun _ _ _ h=>h) (Or.inl ⟨by rfl,?_⟩) ?_ ?_
               rotate_left
               ·
                intro w'
                go_simp
                with_reducible rfl
               rotate_left
               ·
                simp only [Act.put,List.setIfInBounds_toArray,List.set_cons_zero,List.set_cons_succ,QK,QP]
                rfl
               refine Yr (i:=3) (N:=some 67) (v:=?_) (a':=?_) #[true,false,false,true,false,false,false,false,false,false,false,false,false,false,false,false,false,false] rfl rfl (Ya HT_.out (by kernel_rfl)) (fun _ _ _ h=>h) (Or.inl ⟨by rfl,?_⟩) ?_ ?_
               rotate_left
               ·
                intro w'
                go_simp
                with_reducible rfl
               rotate_left
               ·
                simp only [Act.put,List.setIfInBounds_toArray,List.set_cons_zero,List.set_cons_succ,QK,QP]
                rfl
               refine Yr (i:=4) (N:=some 68) (v:=?_) (a':=?_) #[true,false,false,true,true,false,false,false,false,false,false,false,false,false,false,false,false,false] rfl rfl (Ya HT_.out (by kernel_rfl)) (fun _ _ _ h=>h) (Or.inl ⟨by rfl,?_⟩) ?_ ?_
               rotate_left
               ·
                intro w'
                go_simp
                with_reducible rfl
               rotate_left
               ·
                simp only [Act.put,List.setIfInBounds_toArray,List.set_cons_zero,List.set_cons_succ,QK,QP]
                rfl
               refine Yr (i:=5) (N:=some 69) (v:=?_) (a':=?_) #[true,false,false,true,true,true,false,false,false,false,false,false,false,false,false,false,false,false] rfl rfl (Ya HT_.out (by kernel_rfl)) (fun _ _ _ h=>h) (Or.inl ⟨by rfl,?_⟩) ?_ ?_
               rotate_left
               ·
                intro w'
                go_simp
                with_reducible rfl
               rotate_left
               ·
                simp only [Act.put,List.setIfInBounds_toArray,List.set_cons_zero,List.set_cons_succ,QK,QP]
                rfl
               refine Yr (i:=7) (N:=some 71) (v:=?_) (a':=?_) #[true,false,false,true,true,true,false,true,false,false,false,false,false,false,false,false,false,false] rfl rfl (Ya HT_.out (by kernel_rfl)) (fun _ _ _ h=>h) (Or.inl ⟨by rfl,?_⟩) ?_ ?_
               rotate_left
               ·
                intro w'
                go_simp
                with_reducible rfl
               rotate_left
               ·
                simp only [Act.put,List.setIfInBounds_toArray,List.set_cons_zero,List.set_cons_succ,QK,QP]
                rfl
               refine Yr (i:=8) (N:=some 72) (v:=?_) (a':=?_) #[true,false,false,true,true,true,false,true,true,false,false,false,false,false,false,false,false,false] rfl rfl (Ya HT_.out (by kernel_rfl)) (fun _ _ _ h=>h) (Or.inl ⟨by rfl,?_⟩) ?_ ?_
               rotate_left
               ·
                intro w'
                go_simp
                with_reducible rfl
               rotate_left
               ·
                simp only [Act.put,List.setIfInBounds_toArray,List.set_cons_zero,List.set_cons_succ,QK,QP]
                rfl
               refine Yr (i:=9) (N:=some 73) (v:=?_) (a':=?_) #[true,false,false,true,true,true,false,true,true,true,false,false,false,false,false,false,false,false] rfl rfl (Ya HT_.out (by kernel_rfl)) (fun _ _ _ h=>h) (Or.inl ⟨by rfl,?_⟩) ?_ ?_
               rotate_left
               ·
                intro w'
                go_simp
                with_reducible rfl
               rotate_left
               ·
                simp only [Act.put,List.setIfInBounds_toArray,List.set_cons_zero,List.set_cons_succ,QK,QP]
                rfl
               refine JZ (i:=1) (N:=some 65) (v:=?_) (a':=?_) #[true,true,false,true,true,true,false,true,true,true,false,false,false,false,false,false,false,false] rfl rfl (Z9 HT_.out HW_.out (by kernel_rfl)) (fun _ _ _ h=>h) (Or.inl ⟨by rfl,?_⟩) hHeld ?_ ?_
               rotate_left
               ·
                rintro w' ⟨s0,s1,s2,s3,s4,s5,s6,s7,s8,s9,s10,s11,s12⟩
                go_simp
                with_reducible rfl
               rotate_left
               ·
                simp only [Act.put,List.setIfInBounds_toArray,List.set_cons_zero,List.set_cons_succ,QK,QP]
                rfl
               refine JZ (i:=2) (N:=some 66) (v:=?_) (a':=?_) #[true,true,true,true,true,true,false,true,true,true,false,false,false,false,false,false,false,false] rfl rfl (Z9 HT_.out HW_.out (by kernel_rfl)) (fun _ _ _ h=>h) (Or.inl ⟨by rfl,?_⟩) hHeld ?_ ?_
               rotate_left
               ·
                rintro w' ⟨s0,s1,s2,s3,s4,s5,s6,s7,s8,s9,s10,s11,s12⟩
                go_simp
                with_reducible rfl
               rotate_left
               ·
                simp only [Act.put,List.setIfInBounds_toArray,List.set_cons_zero,List.set_cons_succ,QK,QP]
                rfl
               refine JZ (i:=6) (N:=some 70) (v:=?_) (a':=?_) #[true,true,true,true,true,true,true,true,true,true,false,false,false,false,false,false,false,false] rfl rfl (Z9 HT_.out HW_.out (by kernel_rfl)) (fun _ _ _ h=>h) (Or.inl ⟨by rfl,?_⟩) hHeld ?_ ?_
               rotate_left
               ·
                rintro w' ⟨s0,s1,s2,s3,s4,s5,s6,s7,s8,s9,s10,s11,s12⟩
                go_simp
                with_reducible rfl
               rotate_left
               ·
                simp only [Act.put,List.setIfInBounds_toArray,List.set_cons_zero,List.set_cons_succ,QK,QP]
                rfl
               refine JZ (i:=10) (N:=some 74) (v:=?_) (a':=?_) #[true,true,true,true,true,true,true,true,true,true,true,false,false,false,false,false,false,false] rfl rfl (Z9 HT_.out HW_.out (by kernel_rfl)) (fun _ _ _ h=>h) (Or.inl ⟨by rfl,?_⟩) hHeld ?_ ?_
               rotate_left
               ·
                rintro w' ⟨s0,s1,s2,s3,s4,s5,s6,s7,s8,s9,s10,s11,s12⟩
                go_simp
                with_reducible rfl
               rotate_left
               ·
                simp only [Act.put,List.setIfInBounds_toArray,List.set_cons_zero,List.set_cons_succ,QK,QP]
                rfl
               refine qsY (σ:=Nat) 2 #[true,true,true,true,true,true,true,true,true,true,true,true,true,true,true,true,false,false] (fun s_=>[(75,.tuple #[.int .i64 t171,.agg #[.int .i64 Oe,.int .i64 t173,.int .i64 Uj,.int .i64 t175,.int .i64 UK,.int .i64 WG]]),(16,.pointer (some ⟨s_,0,none⟩)),(63,.tuple #[.int .i64 t171,.agg #[.int .i64 Oe,.int .i64 t173,.int .i64 Uj,.int .i64 t175,.int .i64 UK,.int .i64 WG]]),(76,.int .i64 t171),(77,.agg #[.int .i64 Oe,.int .i64 t173,.int .i64 Uj,.int .i64 t175,.int .i64 UK,.int .i64 WG])]) (fun s_ w'=>(w'.cell? ⟨YZ,0,none⟩=some (.slice QC Qa.length Qs)∧w'.cell? ⟨YZ,1,none⟩=some (.slice QA Qe.length Qt)∧w'.cell? ⟨YZ,2,none⟩=some (.slice QE Qb.length Qu)∧w'.cell? ⟨YZ,3,none⟩=some (.int .i64 Y0)∧w'.cell? ⟨YZ,4,none⟩=some (.int .i64 QU)∧w'.cell? ⟨Yz,0,none⟩=some (.int .i64 ZA)∧w'.cell? ⟨Yz,1,none⟩=some (.int .i64 Zr)∧w'.cell? ⟨Yz,2,none⟩=some (.int .i64 Zp)∧w'.cell? ⟨Yz,3,none⟩=some (.int .i64 Zk)∧w'.cell? ⟨Yz,4,none⟩=some (.int .i64 Zh)∧w'.cell? ⟨Yz,5,none⟩=some (.int .i64 Za)∧w'.cell? (qnX.add (Jq).toNat)=some (.int .i64 (rd l1 Jq))∧w'.cell? (qnY.add (Jq).toNat)=some (.int .i64 (rd l2 Jq)))∧(Kd.R (Kd.int .i64) 3 w' w.heap.size (fun k_=>(w.heap.size≤k_)) u13 Kl)∧(w'.heap[Jg]? = some (.cells #[.slice QC Qa.length Qs,.slice QA Qe.length Qt,.slice QE Qb.length Qu,.int .i64 Y0,.int .i64 QU] 39 (0,0)))∧(w'.heap[YZ]? = some (.cells #[.slice QC Qa.length Qs,.slice QA Qe.length Qt,.slice QE Qb.length Qu,.int .i64 Y0,.int .i64 QU] 111 (0,0)))∧(w'.heap[Yz]? = some (.cells #[.int .i64 ZA,.int .i64 Zr,.int .i64 Zp,.int .i64 Zk,.int .i64 Zh,.int .i64 Za] 115 (0,0)))∧(w'.heap[s_]? = some (.cells #[.int .i64 0,.int .i64 0,.int .i64 0,.int .i64 0,.int .i64 0,.int .i64 0] 115 (0,0)))∧(w.heap.size≤s_)∧(w.heap.size≤s_)∧(Jg≠s_)∧(s_≠Jg)∧(YZ≠s_)∧(s_≠YZ)∧(Yz≠s_)∧(s_≠Yz)∧(Below w.heap.size w w')) ?_ ?_
               rotate_left
               ·
                intro hCont;refine two_ (i:=11) (j:=15) (Ni:=some 75) (Nj:=some 16) #[true,true,true,true,true,true,true,true,true,true,true,true,false,false,false,false,false,false] #[true,true,true,true,true,true,true,true,true,true,true,false,false,false,false,true,false,false] rfl rfl rfl rfl (qpg HT_.out (by kernel_rfl)) (by decide) (by decide) (fun K hK => ?_) (fun K hK => ?_)
                ·
                 skip
                 refine qfQ Try.func77 (by kernel_rfl) rfl #[.agg #[.slice QC Qa.length Qs,.slice QA Qe.length Qt,.slice QE Qb.length Qu,.int .i64 Y0,.int .i64 QU],.agg #[.int .i64 ZA,.int .i64 Zr,.int .i64 Zp,.int .i64 Zk,.int .i64 Zh,.int .i64 Za],.int .i64 (rd l1 Jq),.int .i64 (rd l2 Jq)] 64 (by rfl) rfl rfl rfl (by (try simp only [List.map_toArray,List.map_cons,List.map_nil]);first|done|rfl|(simp only [List.length_drop,List.length_take];rfl)) ?_
                 with_reducible refine (YV.calls _ _ Qa _ _ Qe _ _ Qb Y0 QU ZA Zr Zp Zk Zh Za (rd l1 Jq) (rd l2 Jq) t171 Oe t173 Uj t175 UK WG _ ?side1 ?side2 ?side3 ?side4 ?side5 ?side6 A45.out).mono ?_
                 (case side1=>repeat (first|exact (Kd.C_below Z5.out HB.out)|(with_reducible refine Kd.C_alloc ?_ _)|(with_reducible refine Kd.C_drewN ?_ _)|(with_reducible refine Kd.C_drew ?_)))
                 (case side2=>exact ZD.out)
                 (case side3=>repeat (first|exact (Kd.C_below Zj.out HB.out)|(with_reducible refine Kd.C_alloc ?_ _)|(with_reducible refine Kd.C_drewN ?_ _)|(with_reducible refine Kd.C_drew ?_)))
                 (case side4=>exact ZE.out)
                 (case side5=>repeat (first|exact (Kd.C_below Z6.out HB.out)|(with_reducible refine Kd.C_alloc ?_ _)|(with_reducible refine Kd.C_drewN ?_ _)|(with_reducible refine Kd.C_drew ?_)))
                 (case side6=>exact ZF.out)
                 rintro e w48 ⟨rfl,hb⟩;refine ⟨_,rfl,?_⟩;have n0_:=Q0.mk (Kd.R_below (by (with_reducible repeat (first|apply Kd.R_alloc|apply Kd.R_drewN|apply Kd.R_drew));exact HO_13.out) hb);have n1_:=Q0.mk (Qf (g:=Jg) (by (with_reducible repeat (first|refine Q4 ?_ _|refine Q7 ?_|refine Q2 ?_ _));exact YW.out) hb);have n2_:=Q0.mk (Qf (g:=YZ) (by (with_reducible repeat (first|refine Q4 ?_ _|refine Q7 ?_|refine Q2 ?_ _));exact Yd.out) hb);have n3_:=Q0.mk (Qf (g:=Yz) (by (with_reducible repeat (first|refine Q4 ?_ _|refine Q7 ?_|refine Q2 ?_ _));exact YE.out) hb);have n4_:=Q0.mk (Qk (by repeat (first|(with_reducible first|exact HB.out|apply Q3|apply Q1|apply Q6|refine Q5 ?_ Jd.out|refine Q5 ?_ Jl.out|refine Q5 ?_ Ug.out)|exact HB.out)) hb);clear HO_13 YW Yd YE HB;have HO_13:=n0_;have YW:=n1_;have Yd:=n2_;have YE:=n3_;have HB:=n4_;clear n0_ n1_ n2_ n3_ n4_
                 (try clear hb)
                 (try clear hb2)
                 (try clear hk)
                 (try clear hi)
                 refine hK.out _ _ ⟨(Q8 Yd.out 0).trans rfl,(Q8 Yd.out 1).trans rfl,(Q8 Yd.out 2).trans rfl,(Q8 Yd.out 3).trans rfl,(Q8 Yd.out 4).trans rfl,(Q8 YE.out 0).trans rfl,(Q8 YE.out 1).trans rfl,(Q8 YE.out 2).trans rfl,(Q8 YE.out 3).trans rfl,(Q8 YE.out 4).trans rfl,(Q8 YE.out 5).trans rfl,((HB.out.cell (World.block_lt_of_cell? w _ Zv)).trans Zv),((HB.out.cell (World.block_lt_of_cell? w _ Zw)).trans Zw)⟩ (fun hHeld => ?_);clear hK K;refine Kk (a':=?_) ?_ ?_
                 rotate_left
                 ·
                  show Act.put _ (some 75) _=_
                  simp only [Act.put,List.setIfInBounds_toArray,List.set_cons_zero,List.set_cons_succ,QK,QP]
                  rfl
                 refine Yr (i:=12) (N:=some 63) (v:=?_) (a':=?_) #[true,true,true,true,true,true,true,true,true,true,true,true,true,false,false,false,false,false] rfl rfl (Ya HT_.out (by kernel_rfl)) (fun _ _ _ h=>h) (Or.inl ⟨by rfl,?_⟩) ?_ ?_
                 rotate_left
                 ·
                  intro w'
                  go_simp
                  with_reducible rfl
                 rotate_left
                 ·
                  simp only [Act.put,List.setIfInBounds_toArray,List.set_cons_zero,List.set_cons_succ,QK,QP]
                  rfl
                 refine Yr (i:=13) (N:=some 76) (v:=?_) (a':=?_) #[true,true,true,true,true,true,true,true,true,true,true,true,true,true,false,false,false,false] rfl rfl (Ya HT_.out (by kernel_rfl)) (fun _ _ _ h=>h) (Or.inl ⟨by rfl,?_⟩) ?_ ?_
                 rotate_left
                 ·
                  intro w'
                  go_simp
                  with_reducible rfl
                 rotate_left
                 ·
                  simp only [Act.put,List.setIfInBounds_toArray,List.set_cons_zero,List.set_cons_succ,QK,QP]
                  rfl
                 refine Yr (i:=14) (N:=some 77) (v:=?_) (a':=?_) #[true,true,true,true,true,true,true,true,true,true,true,true,true,true,true,false,false,false] rfl rfl (Ya HT_.out (by kernel_rfl)) (fun _ _ _ h=>h) (Or.inl ⟨by rfl,?_⟩) ?_ ?_
                 rotate_left
                 ·
                  intro w'
                  go_simp
                  with_reducible rfl
                 rotate_left
                 ·
                  simp only [Act.put,List.setIfInBounds_toArray,List.set_cons_zero,List.set_cons_succ,QK,QP]
                  rfl
                 refine one_ (i:=15) (N:=some 16) #[true,true,true,true,true,true,true,true,true,true,true,true,true,true,true,true,false,false] rfl rfl (O5 HT_.out (by kernel_rfl)) (by decide) (fun K hK => ?_);refine qbl ?hg (N:=16) ?hd (cs:=#[.int .i64 0,.int .i64 0,.int .i64 0,.int .i64 0,.int .i64 0,.int .i64 0]) (t:=115) ?hr ?_;(case hd=>rfl);(case hg=>rfl);(case hr=>first|(go_simp;done)|(go_simp;rfl));intro QS hg w49 hbox hb;have n0_:=Q0.mk (Kd.R_below (by (with_reducible repeat (first|apply Kd.R_alloc|apply Kd.R_drewN|apply Kd.R_drew));exact HO_13.out) hb);have n1_:=Q0.mk (Qf (g:=Jg) (by (with_reducible repeat (first|refine Q4 ?_ _|refine Q7 ?_|refine Q2 ?_ _));exact YW.out) hb);have n2_:=Q0.mk (Qf (g:=YZ) (by (with_reducible repeat (first|refine Q4 ?_ _|refine Q7 ?_|refine Q2 ?_ _));exact Yd.out) hb);have n3_:=Q0.mk (Qf (g:=Yz) (by (with_reducible repeat (first|refine Q4 ?_ _|refine Q7 ?_|refine Q2 ?_ _));exact YE.out) hb);have n4_:=Q0.mk (Qk (by repeat (first|(with_reducible first|exact HB.out|apply Q3|apply Q1|apply Q6|refine Q5 ?_ Jd.out|refine Q5 ?_ Jl.out|refine Q5 ?_ Ug.out)|exact HB.out)) hb);have n5_:=Q0.mk (hbox);have n6_:=Q0.mk ((by rw [hg];exact (Qi (by repeat (first|(with_reducible first|exact HB.out|apply Q3|apply Q1|apply Q6|refine Q5 ?_ Jd.out|refine Q5 ?_ Jl.out|refine Q5 ?_ Ug.out)|exact HB.out))):w.heap.size≤QS));have n7_:=n6_;have n8_:=Q0.mk ((by rw [hg];exact Nat.ne_of_lt (QT (g:=Jg) (by (with_reducible repeat (first|refine Q4 ?_ _|refine Q7 ?_|refine Q2 ?_ _));exact YW.out)):Jg≠QS));have n9_:=Q0.mk (n8_.out.symm);have n10_:=Q0.mk ((by rw [hg];exact Nat.ne_of_lt (QT (g:=YZ) (by (with_reducible repeat (first|refine Q4 ?_ _|refine Q7 ?_|refine Q2 ?_ _));exact Yd.out)):YZ≠QS));have n11_:=Q0.mk (n10_.out.symm);have n12_:=Q0.mk ((by rw [hg];exact Nat.ne_of_lt (QT (g:=Yz) (by (with_reducible repeat (first|refine Q4 ?_ _|refine Q7 ?_|refine Q2 ?_ _));exact YE.out)):Yz≠QS));have n13_:=Q0.mk (n12_.out.symm);clear HO_13 YW Yd YE HB;have HO_13:=n0_;have YW:=n1_;have Yd:=n2_;have YE:=n3_;have HB:=n4_;have ZS:=n5_;have ZM:=n6_;have Xx:=n7_;have Jy:=n8_;have Kn:=n9_;have Yw:=n10_;have Ko:=n11_;have Yh:=n12_;have Ym:=n13_;clear n0_ n1_ n2_ n3_ n4_ n5_ n6_ n7_ n8_ n9_ n10_ n11_ n12_ n13_ hb hbox hg;refine hK.out _ _ ⟨(Q8 Yd.out 0).trans rfl,(Q8 Yd.out 1).trans rfl,(Q8 Yd.out 2).trans rfl,(Q8 Yd.out 3).trans rfl,(Q8 Yd.out 4).trans rfl,(Q8 YE.out 0).trans rfl,(Q8 YE.out 1).trans rfl,(Q8 YE.out 2).trans rfl,(Q8 YE.out 3).trans rfl,(Q8 YE.out 4).trans rfl,(Q8 YE.out 5).trans rfl,((HB.out.cell (World.block_lt_of_cell? w _ Zv)).trans Zv),((HB.out.cell (World.block_lt_of_cell? w _ Zw)).trans Zw)⟩ (fun hHeld => ?_);clear hK K;refine Kk (a':=?_) ?_ ?_
                 rotate_left
                 ·
                  show Act.put _ (some 16) _=_
                  simp only [Act.put,List.setIfInBounds_toArray,List.set_cons_zero,List.set_cons_succ,QK,QP]
                  rfl
                 exact Kk (by simp only [Xn,Act.put,List.setIfInBounds_toArray,List.set_cons_zero,List.set_cons_succ]) (hCont (QS) _ ⟨hHeld,(by (with_reducible repeat (first|apply Kd.R_alloc|apply Kd.R_drewN|apply Kd.R_drew));exact HO_13.out),(by (with_reducible repeat (first|refine Q4 ?_ _|refine Q7 ?_|refine Q2 ?_ _));exact YW.out),(by (with_reducible repeat (first|refine Q4 ?_ _|refine Q7 ?_|refine Q2 ?_ _));exact Yd.out),(by (with_reducible repeat (first|refine Q4 ?_ _|refine Q7 ?_|refine Q2 ?_ _));exact YE.out),(by (with_reducible repeat (first|refine Q4 ?_ _|refine Q7 ?_|refine Q2 ?_ _));exact ZS.out),ZM.out,Xx.out,Jy.out,Kn.out,Yw.out,Ko.out,Yh.out,Ym.out,(by repeat (first|(with_reducible first|exact HB.out|apply Q3|apply Q1|apply Q6|refine Q5 ?_ Jd.out|refine Q5 ?_ Jl.out|refine Q5 ?_ Ug.out|refine Q5 ?_ Xx.out)|exact HB.out))⟩)
                skip
                refine qbl ?hg (N:=16) ?hd (cs:=#[.int .i64 0,.int .i64 0,.int .i64 0,.int .i64 0,.int .i64 0,.int .i64 0]) (t:=115) ?hr ?_;(case hd=>rfl);(case hg=>rfl);(case hr=>first|(go_simp;done)|(go_simp;rfl));intro QS hg w48 hbox hb;have n0_:=Q0.mk (Kd.R_below (by (with_reducible repeat (first|apply Kd.R_alloc|apply Kd.R_drewN|apply Kd.R_drew));exact HO_13.out) hb);have n1_:=Q0.mk (Qf (g:=Jg) (by (with_reducible repeat (first|refine Q4 ?_ _|refine Q7 ?_|refine Q2 ?_ _));exact YW.out) hb);have n2_:=Q0.mk (Qf (g:=YZ) (by (with_reducible repeat (first|refine Q4 ?_ _|refine Q7 ?_|refine Q2 ?_ _));exact Yd.out) hb);have n3_:=Q0.mk (Qf (g:=Yz) (by (with_reducible repeat (first|refine Q4 ?_ _|refine Q7 ?_|refine Q2 ?_ _));exact YE.out) hb);have n4_:=Q0.mk (Qk (by repeat (first|(with_reducible first|exact HB.out|apply Q3|apply Q1|apply Q6|refine Q5 ?_ Jd.out|refine Q5 ?_ Jl.out|refine Q5 ?_ Ug.out)|exact HB.out)) hb);have n5_:=Q0.mk (hbox);have n6_:=Q0.mk ((by rw [hg];exact (Qi (by repeat (first|(with_reducible first|exact HB.out|apply Q3|apply Q1|apply Q6|refine Q5 ?_ Jd.out|refine Q5 ?_ Jl.out|refine Q5 ?_ Ug.out)|exact HB.out))):w.heap.size≤QS));have n7_:=n6_;have n8_:=Q0.mk ((by rw [hg];exact Nat.ne_of_lt (QT (g:=Jg) (by (with_reducible repeat (first|refine Q4 ?_ _|refine Q7 ?_|refine Q2 ?_ _));exact YW.out)):Jg≠QS));have n9_:=Q0.mk (n8_.out.symm);have n10_:=Q0.mk ((by rw [hg];exact Nat.ne_of_lt (QT (g:=YZ) (by (with_reducible repeat (first|refine Q4 ?_ _|refine Q7 ?_|refine Q2 ?_ _));exact Yd.out)):YZ≠QS));have n11_:=Q0.mk (n10_.out.symm);have n12_:=Q0.mk ((by rw [hg];exact Nat.ne_of_lt (QT (g:=Yz) (by (with_reducible repeat (first|refine Q4 ?_ _|refine Q7 ?_|refine Q2 ?_ _));exact YE.out)):Yz≠QS));have n13_:=Q0.mk (n12_.out.symm);clear HO_13 YW Yd YE HB;have HO_13:=n0_;have YW:=n1_;have Yd:=n2_;have YE:=n3_;have HB:=n4_;have ZS:=n5_;have ZM:=n6_;have Xx:=n7_;have Jy:=n8_;have Kn:=n9_;have Yw:=n10_;have Ko:=n11_;have Yh:=n12_;have Ym:=n13_;clear n0_ n1_ n2_ n3_ n4_ n5_ n6_ n7_ n8_ n9_ n10_ n11_ n12_ n13_ hb hbox hg;refine hK.out _ _ ⟨(Q8 Yd.out 0).trans rfl,(Q8 Yd.out 1).trans rfl,(Q8 Yd.out 2).trans rfl,(Q8 Yd.out 3).trans rfl,(Q8 Yd.out 4).trans rfl,(Q8 YE.out 0).trans rfl,(Q8 YE.out 1).trans rfl,(Q8 YE.out 2).trans rfl,(Q8 YE.out 3).trans rfl,(Q8 YE.out 4).trans rfl,(Q8 YE.out 5).trans rfl,((HB.out.cell (World.block_lt_of_cell? w _ Zv)).trans Zv),((HB.out.cell (World.block_lt_of_cell? w _ Zw)).trans Zw)⟩ (fun hHeld => ?_);clear hK K;refine Kk (a':=?_) ?_ ?_
                rotate_left
                ·
                 show Act.put _ (some 16) _=_
                 simp only [Act.put,List.setIfInBounds_toArray,List.set_cons_zero,List.set_cons_succ,QK,QP]
                 rfl
                refine one_ (i:=11) (N:=some 75) #[true,true,true,true,true,true,true,true,true,true,true,true,false,false,false,true,false,false] rfl rfl (O5 HT_.out (by kernel_rfl)) (by decide) (fun K hK => ?_);refine qfQ Try.func77 (by kernel_rfl) rfl #[.agg #[.slice QC Qa.length Qs,.slice QA Qe.length Qt,.slice QE Qb.length Qu,.int .i64 Y0,.int .i64 QU],.agg #[.int .i64 ZA,.int .i64 Zr,.int .i64 Zp,.int .i64 Zk,.int .i64 Zh,.int .i64 Za],.int .i64 (rd l1 Jq),.int .i64 (rd l2 Jq)] 64 (by rfl) rfl rfl rfl (by (try simp only [List.map_toArray,List.map_cons,List.map_nil]);first|done|rfl|(simp only [List.length_drop,List.length_take];rfl)) ?_
                with_reducible refine (YV.calls _ _ Qa _ _ Qe _ _ Qb Y0 QU ZA Zr Zp Zk Zh Za (rd l1 Jq) (rd l2 Jq) t171 Oe t173 Uj t175 UK WG _ ?side1 ?side2 ?side3 ?side4 ?side5 ?side6 A45.out).mono ?_
                (case side1=>repeat (first|exact (Kd.C_below Z5.out HB.out)|(with_reducible refine Kd.C_alloc ?_ _)|(with_reducible refine Kd.C_drewN ?_ _)|(with_reducible refine Kd.C_drew ?_)))
                (case side2=>exact ZD.out)
                (case side3=>repeat (first|exact (Kd.C_below Zj.out HB.out)|(with_reducible refine Kd.C_alloc ?_ _)|(with_reducible refine Kd.C_drewN ?_ _)|(with_reducible refine Kd.C_drew ?_)))
                (case side4=>exact ZE.out)
                (case side5=>repeat (first|exact (Kd.C_below Z6.out HB.out)|(with_reducible refine Kd.C_alloc ?_ _)|(with_reducible refine Kd.C_drewN ?_ _)|(with_reducible refine Kd.C_drew ?_)))
                (case side6=>exact ZF.out)
                rintro e w49 ⟨rfl,hb⟩;refine ⟨_,rfl,?_⟩;have n0_:=Q0.mk (Kd.R_below (by (with_reducible repeat (first|apply Kd.R_alloc|apply Kd.R_drewN|apply Kd.R_drew));exact HO_13.out) hb);have n1_:=Q0.mk (Qf (g:=Jg) (by (with_reducible repeat (first|refine Q4 ?_ _|refine Q7 ?_|refine Q2 ?_ _));exact YW.out) hb);have n2_:=Q0.mk (Qf (g:=YZ) (by (with_reducible repeat (first|refine Q4 ?_ _|refine Q7 ?_|refine Q2 ?_ _));exact Yd.out) hb);have n3_:=Q0.mk (Qf (g:=Yz) (by (with_reducible repeat (first|refine Q4 ?_ _|refine Q7 ?_|refine Q2 ?_ _));exact YE.out) hb);have n4_:=Q0.mk (Qf (g:=QS) (by (with_reducible repeat (first|refine Q4 ?_ _|refine Q7 ?_|refine Q2 ?_ _));exact ZS.out) hb);have n5_:=Q0.mk (Qk (by repeat (first|(with_reducible first|exact HB.out|apply Q3|apply Q1|apply Q6|refine Q5 ?_ Jd.out|refine Q5 ?_ Jl.out|refine Q5 ?_ Ug.out|refine Q5 ?_ Xx.out)|exact HB.out)) hb);clear HO_13 YW Yd YE ZS HB;have HO_13:=n0_;have YW:=n1_;have Yd:=n2_;have YE:=n3_;have ZS:=n4_;have HB:=n5_;clear n0_ n1_ n2_ n3_ n4_ n5_
                (try clear hb)
                (try clear hb2)
                (try clear hk)
                (try clear hi)
                refine hK.out _ _ ⟨(Q8 Yd.out 0).trans rfl,(Q8 Yd.out 1).trans rfl,(Q8 Yd.out 2).trans rfl,(Q8 Yd.out 3).trans rfl,(Q8 Yd.out 4).trans rfl,(Q8 YE.out 0).trans rfl,(Q8 YE.out 1).trans rfl,(Q8 YE.out 2).trans rfl,(Q8 YE.out 3).trans rfl,(Q8 YE.out 4).trans rfl,(Q8 YE.out 5).trans rfl,((HB.out.cell (World.block_lt_of_cell? w _ Zv)).trans Zv),((HB.out.cell (World.block_lt_of_cell? w _ Zw)).trans Zw)⟩ (fun hHeld => ?_);clear hK K;refine Kk (a':=?_) ?_ ?_
                rotate_left
                ·
                 show Act.put _ (some 75) _=_
                 simp only [Act.put,List.setIfInBounds_toArray,List.set_cons_zero,List.set_cons_succ,QK,QP]
                 rfl
                refine Yr (i:=12) (N:=some 63) (v:=?_) (a':=?_) #[true,true,true,true,true,true,true,true,true,true,true,true,true,false,false,true,false,false] rfl rfl (Ya HT_.out (by kernel_rfl)) (fun _ _ _ h=>h) (Or.inl ⟨by rfl,?_⟩) ?_ ?_
                rotate_left
                ·
                 intro w'
                 go_simp
                 with_reducible rfl
                rotate_left
                ·
                 simp only [Act.put,List.setIfInBounds_toArray,List.set_cons_zero,List.set_cons_succ,QK,QP]
                 rfl
                refine Yr (i:=13) (N:=some 76) (v:=?_) (a':=?_) #[true,true,true,true,true,true,true,true,true,true,true,true,true,true,false,true,false,false] rfl rfl (Ya HT_.out (by kernel_rfl)) (fun _ _ _ h=>h) (Or.inl ⟨by rfl,?_⟩) ?_ ?_
                rotate_left
                ·
                 intro w'
                 go_simp
                 with_reducible rfl
                rotate_left
                ·
                 simp only [Act.put,List.setIfInBounds_toArray,List.set_cons_zero,List.set_cons_succ,QK,QP]
                 rfl
                refine Yr (i:=14) (N:=some 77) (v:=?_) (a':=?_) #[true,true,true,true,true,true,true,true,true,true,true,true,true,true,true,true,false,false] rfl rfl (Ya HT_.out (by kernel_rfl)) (fun _ _ _ h=>h) (Or.inl ⟨by rfl,?_⟩) ?_ ?_
                rotate_left
                ·
                 intro w'
                 go_simp
                 with_reducible rfl
                rotate_left
                ·
                 simp only [Act.put,List.setIfInBounds_toArray,List.set_cons_zero,List.set_cons_succ,QK,QP]
                 rfl
                exact Kk (by simp only [Xn,Act.put,List.setIfInBounds_toArray,List.set_cons_zero,List.set_cons_succ]) (hCont (QS) _ ⟨hHeld,(by (with_reducible repeat (first|apply Kd.R_alloc|apply Kd.R_drewN|apply Kd.R_drew));exact HO_13.out),(by (with_reducible repeat (first|refine Q4 ?_ _|refine Q7 ?_|refine Q2 ?_ _));exact YW.out),(by (with_reducible repeat (first|refine Q4 ?_ _|refine Q7 ?_|refine Q2 ?_ _));exact Yd.out),(by (with_reducible repeat (first|refine Q4 ?_ _|refine Q7 ?_|refine Q2 ?_ _));exact YE.out),(by (with_reducible repeat (first|refine Q4 ?_ _|refine Q7 ?_|refine Q2 ?_ _));exact ZS.out),ZM.out,Xx.out,Jy.out,Kn.out,Yw.out,Ko.out,Yh.out,Ym.out,(by repeat (first|(with_reducible first|exact HB.out|apply Q3|apply Q1|apply Q6|refine Q5 ?_ Jd.out|refine Q5 ?_ Jl.out|refine Q5 ?_ Ug.out|refine Q5 ?_ Xx.out)|exact HB.out))⟩)
               rintro QS w50 ⟨hS_,h0_,h1_,h2_,h3_,h4_,h5_,h6_,h7_,h8_,h9_,h10_,h11_,h12_,h13_⟩;have n0_:Q0 (Kd.R (Kd.int .i64) 3 w50 w.heap.size (fun k_=>(w.heap.size≤k_)) u13 Kl):=⟨h0_⟩;have n1_:Q0 (w50.heap[Jg]? = some (.cells #[.slice QC Qa.length Qs,.slice QA Qe.length Qt,.slice QE Qb.length Qu,.int .i64 Y0,.int .i64 QU] 39 (0,0))):=⟨h1_⟩;have n2_:Q0 (w50.heap[YZ]? = some (.cells #[.slice QC Qa.length Qs,.slice QA Qe.length Qt,.slice QE Qb.length Qu,.int .i64 Y0,.int .i64 QU] 111 (0,0))):=⟨h2_⟩;have n3_:Q0 (w50.heap[Yz]? = some (.cells #[.int .i64 ZA,.int .i64 Zr,.int .i64 Zp,.int .i64 Zk,.int .i64 Zh,.int .i64 Za] 115 (0,0))):=⟨h3_⟩;have n4_:Q0 (w50.heap[QS]? = some (.cells #[.int .i64 0,.int .i64 0,.int .i64 0,.int .i64 0,.int .i64 0,.int .i64 0] 115 (0,0))):=⟨h4_⟩;have n5_:Q0 (w.heap.size≤QS):=⟨h5_⟩;have n6_:Q0 (w.heap.size≤QS):=⟨h6_⟩;have n7_:Q0 (Jg≠QS):=⟨h7_⟩;have n8_:Q0 (QS≠Jg):=⟨h8_⟩;have n9_:Q0 (YZ≠QS):=⟨h9_⟩;have n10_:Q0 (QS≠YZ):=⟨h10_⟩;have n11_:Q0 (Yz≠QS):=⟨h11_⟩;have n12_:Q0 (QS≠Yz):=⟨h12_⟩;have n13_:Q0 (Below w.heap.size w w50):=⟨h13_⟩;clear HO_13 YW Yd YE HB h0_ h1_ h2_ h3_ h4_ h5_ h6_ h7_ h8_ h9_ h10_ h11_ h12_ h13_;have HO_13:=n0_;have YW:=n1_;have Yd:=n2_;have YE:=n3_;have ZS:=n4_;have ZM:=n5_;have Xx:=n6_;have Jy:=n7_;have Kn:=n8_;have Yw:=n9_;have Ko:=n10_;have Yh:=n11_;have Ym:=n12_;have HB:=n13_;clear n0_ n1_ n2_ n3_ n4_ n5_ n6_ n7_ n8_ n9_ n10_ n11_ n12_ n13_;have hHeld:w50.cell? ⟨YZ,0,none⟩=some (.slice QC Qa.length Qs)∧w50.cell? ⟨YZ,1,none⟩=some (.slice QA Qe.length Qt)∧w50.cell? ⟨YZ,2,none⟩=some (.slice QE Qb.length Qu)∧w50.cell? ⟨YZ,3,none⟩=some (.int .i64 Y0)∧w50.cell? ⟨YZ,4,none⟩=some (.int .i64 QU)∧w50.cell? ⟨Yz,0,none⟩=some (.int .i64 ZA)∧w50.cell? ⟨Yz,1,none⟩=some (.int .i64 Zr)∧w50.cell? ⟨Yz,2,none⟩=some (.int .i64 Zp)∧w50.cell? ⟨Yz,3,none⟩=some (.int .i64 Zk)∧w50.cell? ⟨Yz,4,none⟩=some (.int .i64 Zh)∧w50.cell? ⟨Yz,5,none⟩=some (.int .i64 Za)∧w50.cell? (qnX.add (Jq).toNat)=some (.int .i64 (rd l1 Jq))∧w50.cell? (qnY.add (Jq).toNat)=some (.int .i64 (rd l2 Jq)):=hS_;refine Kk (a':=?_) ?_ ?_
               rotate_left
               ·
                simp only [Xn,Act.put,List.setIfInBounds_toArray,List.set_cons_zero,List.set_cons_succ]
                rfl
               refine Yr (i:=16) (N:=some 15) (v:=?_) (a':=?_) #[true,true,true,true,true,true,true,true,true,true,true,true,true,true,true,true,true,false] rfl rfl (Ya HT_.out (by kernel_rfl)) (fun _ _ _ h=>h) (Or.inl ⟨by rfl,?_⟩) ?_ ?_
               rotate_left
               ·
                intro w'
                go_simp
                with_reducible rfl
               rotate_left
               ·
                simp only [Act.put,List.setIfInBounds_toArray,List.set_cons_zero,List.set_cons_succ,QK,QP]
                rfl
               refine one_ (i:=17) (N:=none) #[true,true,true,true,true,true,true,true,true,true,true,true,true,true,true,true,true,true] rfl rfl (O5 HT_.out (by kernel_rfl)) (by decide) (fun K hK => ?_);have qJi:w50.cell? ⟨QS,0,none⟩=some (.int .i64 0):=(Q8 ZS.out 0).trans rfl;have qGQ:=Q9 ZS.out 0;have qDL:=Jy.out;have qDM:=Yw.out;have qDN:=Yh.out;have qCZ:=Kn.out;have qC0:=Ko.out;have qC1:=Ym.out;have qJj:w50.cell? ⟨QS,1,none⟩=some (.int .i64 0):=(Q8 ZS.out 1).trans rfl;have qGR:=Q9 ZS.out 1;have qDO:=Jy.out;have qDP:=Yw.out;have qDQ:=Yh.out;have qC2:=Kn.out;have qC3:=Ko.out;have qC4:=Ym.out;have qJk:w50.cell? ⟨QS,2,none⟩=some (.int .i64 0):=(Q8 ZS.out 2).trans rfl;have qGS:=Q9 ZS.out 2;have qDR:=Jy.out;have qDS:=Yw.out;have qDT:=Yh.out;have qC5:=Kn.out;have qC6:=Ko.out;have qC7:=Ym.out;have qJl:w50.cell? ⟨QS,3,none⟩=some (.int .i64 0):=(Q8 ZS.out 3).trans rfl;have qGT:=Q9 ZS.out 3;have qDU:=Jy.out;have qDV:=Yw.out;have qDW:=Yh.out;have qC8:=Kn.out;have qC9:=Ko.out;have qDa:=Ym.out;have qJm:w50.cell? ⟨QS,4,none⟩=some (.int .i64 0):=(Q8 ZS.out 4).trans rfl;have qGU:=Q9 ZS.out 4;have qDX:=Jy.out;have qDY:=Yw.out;have qDZ:=Yh.out;have qDb:=Kn.out;have qDc:=Ko.out;have qDd:=Ym.out;have qJn:w50.cell? ⟨QS,5,none⟩=some (.int .i64 0):=(Q8 ZS.out 5).trans rfl;have qGV:=Q9 ZS.out 5;have qD0:=Jy.out;have qD1:=Yw.out;have qD2:=Yh.out;have qDe:=Kn.out;have qDf:=Ko.out;have qDg:=Ym.out;refine qo9 (w1:=?_) (by rfl) rfl ?_ ?_
               rotate_left
               ·
                go_simp
                rfl
               refine hK.out _ _ ⟨((Qn (p:=⟨QS,_,none⟩) Yw.out _).trans (((Qn (p:=⟨QS,_,none⟩) Yw.out _).trans (((Qn (p:=⟨QS,_,none⟩) Yw.out _).trans (((Qn (p:=⟨QS,_,none⟩) Yw.out _).trans (((Qn (p:=⟨QS,_,none⟩) Yw.out _).trans (((Qn (p:=⟨QS,_,none⟩) Yw.out _).trans (hHeld.1)))))))))))),((Qn (p:=⟨QS,_,none⟩) Yw.out _).trans (((Qn (p:=⟨QS,_,none⟩) Yw.out _).trans (((Qn (p:=⟨QS,_,none⟩) Yw.out _).trans (((Qn (p:=⟨QS,_,none⟩) Yw.out _).trans (((Qn (p:=⟨QS,_,none⟩) Yw.out _).trans (((Qn (p:=⟨QS,_,none⟩) Yw.out _).trans (hHeld.2.1)))))))))))),((Qn (p:=⟨QS,_,none⟩) Yw.out _).trans (((Qn (p:=⟨QS,_,none⟩) Yw.out _).trans (((Qn (p:=⟨QS,_,none⟩) Yw.out _).trans (((Qn (p:=⟨QS,_,none⟩) Yw.out _).trans (((Qn (p:=⟨QS,_,none⟩) Yw.out _).trans (((Qn (p:=⟨QS,_,none⟩) Yw.out _).trans (hHeld.2.2.1)))))))))))),((Qn (p:=⟨QS,_,none⟩) Yw.out _).trans (((Qn (p:=⟨QS,_,none⟩) Yw.out _).trans (((Qn (p:=⟨QS,_,none⟩) Yw.out _).trans (((Qn (p:=⟨QS,_,none⟩) Yw.out _).trans (((Qn (p:=⟨QS,_,none⟩) Yw.out _).trans (((Qn (p:=⟨QS,_,none⟩) Yw.out _).trans (hHeld.2.2.2.1)))))))))))),((Qn (p:=⟨QS,_,none⟩) Yw.out _).trans (((Qn (p:=⟨QS,_,none⟩) Yw.out _).trans (((Qn (p:=⟨QS,_,none⟩) Yw.out _).trans (((Qn (p:=⟨QS,_,none⟩) Yw.out _).trans (((Qn (p:=⟨QS,_,none⟩) Yw.out _).trans (((Qn (p:=⟨QS,_,none⟩) Yw.out _).trans (hHeld.2.2.2.2.1)))))))))))),((Qn (p:=⟨QS,_,none⟩) Yh.out _).trans (((Qn (p:=⟨QS,_,none⟩) Yh.out _).trans (((Qn (p:=⟨QS,_,none⟩) Yh.out _).trans (((Qn (p:=⟨QS,_,none⟩) Yh.out _).trans (((Qn (p:=⟨QS,_,none⟩) Yh.out _).trans (((Qn (p:=⟨QS,_,none⟩) Yh.out _).trans (hHeld.2.2.2.2.2.1)))))))))))),((Qn (p:=⟨QS,_,none⟩) Yh.out _).trans (((Qn (p:=⟨QS,_,none⟩) Yh.out _).trans (((Qn (p:=⟨QS,_,none⟩) Yh.out _).trans (((Qn (p:=⟨QS,_,none⟩) Yh.out _).trans (((Qn (p:=⟨QS,_,none⟩) Yh.out _).trans (((Qn (p:=⟨QS,_,none⟩) Yh.out _).trans (hHeld.2.2.2.2.2.2.1)))))))))))),((Qn (p:=⟨QS,_,none⟩) Yh.out _).trans (((Qn (p:=⟨QS,_,none⟩) Yh.out _).trans (((Qn (p:=⟨QS,_,none⟩) Yh.out _).trans (((Qn (p:=⟨QS,_,none⟩) Yh.out _).trans (((Qn (p:=⟨QS,_,none⟩) Yh.out _).trans (((Qn (p:=⟨QS,_,none⟩) Yh.out _).trans (hHeld.2.2.2.2.2.2.2.1)))))))))))),((Qn (p:=⟨QS,_,none⟩) Yh.out _).trans (((Qn (p:=⟨QS,_,none⟩) Yh.out _).trans (((Qn (p:=⟨QS,_,none⟩) Yh.out _).trans (((Qn (p:=⟨QS,_,none⟩) Yh.out _).trans (((Qn (p:=⟨QS,_,none⟩) Yh.out _).trans (((Qn (p:=⟨QS,_,none⟩) Yh.out _).trans (hHeld.2.2.2.2.2.2.2.2.1)))))))))))),((Qn (p:=⟨QS,_,none⟩) Yh.out _).trans (((Qn (p:=⟨QS,_,none⟩) Yh.out _).trans (((Qn (p:=⟨QS,_,none⟩) Yh.out _).trans (((Qn (p:=⟨QS,_,none⟩) Yh.out _).trans (((Qn (p:=⟨QS,_,none⟩) Yh.out _).trans (((Qn (p:=⟨QS,_,none⟩) Yh.out _).trans (hHeld.2.2.2.2.2.2.2.2.2.1)))))))))))),((Qn (p:=⟨QS,_,none⟩) Yh.out _).trans (((Qn (p:=⟨QS,_,none⟩) Yh.out _).trans (((Qn (p:=⟨QS,_,none⟩) Yh.out _).trans (((Qn (p:=⟨QS,_,none⟩) Yh.out _).trans (((Qn (p:=⟨QS,_,none⟩) Yh.out _).trans (((Qn (p:=⟨QS,_,none⟩) Yh.out _).trans (hHeld.2.2.2.2.2.2.2.2.2.2.1)))))))))))),((Qn (p:=⟨QS,_,none⟩) (by first|exact Nat.ne_of_lt (Nat.lt_of_lt_of_le (by have:=World.block_lt_of_cell? _ _ Zv;first|rwa [Ql] at this|exact this) ZM.out)|(rw [Ql];exact Nat.ne_of_lt (Nat.lt_of_lt_of_le (by have:=World.block_lt_of_cell? _ _ Zv;first|rwa [Ql] at this|exact this) ZM.out))|(show (Addr.add _ _).block≠_;rw [Ql];exact Nat.ne_of_lt (Nat.lt_of_lt_of_le (by have:=World.block_lt_of_cell? _ _ Zv;first|rwa [Ql] at this|exact this) ZM.out))|(dsimp only;exact Nat.ne_of_lt (Nat.lt_of_lt_of_le (by have:=World.block_lt_of_cell? _ _ Zv;first|rwa [Ql] at this|exact this) ZM.out))) _).trans (((Qn (p:=⟨QS,_,none⟩) (by first|exact Nat.ne_of_lt (Nat.lt_of_lt_of_le (by have:=World.block_lt_of_cell? _ _ Zv;first|rwa [Ql] at this|exact this) ZM.out)|(rw [Ql];exact Nat.ne_of_lt (Nat.lt_of_lt_of_le (by have:=World.block_lt_of_cell? _ _ Zv;first|rwa [Ql] at this|exact this) ZM.out))|(show (Addr.add _ _).block≠_;rw [Ql];exact Nat.ne_of_lt (Nat.lt_of_lt_of_le (by have:=World.block_lt_of_cell? _ _ Zv;first|rwa [Ql] at this|exact this) ZM.out))|(dsimp only;exact Nat.ne_of_lt (Nat.lt_of_lt_of_le (by have:=World.block_lt_of_cell? _ _ Zv;first|rwa [Ql] at this|exact this) ZM.out))) _).trans (((Qn (p:=⟨QS,_,none⟩) (by first|exact Nat.ne_of_lt (Nat.lt_of_lt_of_le (by have:=World.block_lt_of_cell? _ _ Zv;first|rwa [Ql] at this|exact this) ZM.out)|(rw [Ql];exact Nat.ne_of_lt (Nat.lt_of_lt_of_le (by have:=World.block_lt_of_cell? _ _ Zv;first|rwa [Ql] at this|exact this) ZM.out))|(show (Addr.add _ _).block≠_;rw [Ql];exact Nat.ne_of_lt (Nat.lt_of_lt_of_le (by have:=World.block_lt_of_cell? _ _ Zv;first|rwa [Ql] at this|exact this) ZM.out))|(dsimp only;exact Nat.ne_of_lt (Nat.lt_of_lt_of_le (by have:=World.block_lt_of_cell? _ _ Zv;first|rwa [Ql] at this|exact this) ZM.out))) _).trans (((Qn (p:=⟨QS,_,none⟩) (by first|exact Nat.ne_of_lt (Nat.lt_of_lt_of_le (by have:=World.block_lt_of_cell? _ _ Zv;first|rwa [Ql] at this|exact this) ZM.out)|(rw [Ql];exact Nat.ne_of_lt (Nat.lt_of_lt_of_le (by have:=World.block_lt_of_cell? _ _ Zv;first|rwa [Ql] at this|exact this) ZM.out))|(show (Addr.add _ _).block≠_;rw [Ql];exact Nat.ne_of_lt (Nat.lt_of_lt_of_le (by have:=World.block_lt_of_cell? _ _ Zv;first|rwa [Ql] at this|exact this) ZM.out))|(dsimp only;exact Nat.ne_of_lt (Nat.lt_of_lt_of_le (by have:=World.block_lt_of_cell? _ _ Zv;first|rwa [Ql] at this|exact this) ZM.out))) _).trans (((Qn (p:=⟨QS,_,none⟩) (by first|exact Nat.ne_of_lt (Nat.lt_of_lt_of_le (by have:=World.block_lt_of_cell? _ _ Zv;first|rwa [Ql] at this|exact this) ZM.out)|(rw [Ql];exact Nat.ne_of_lt (Nat.lt_of_lt_of_le (by have:=World.block_lt_of_cell? _ _ Zv;first|rwa [Ql] at this|exact this) ZM.out))|(show (Addr.add _ _).block≠_;rw [Ql];exact Nat.ne_of_lt (Nat.lt_of_lt_of_le (by have:=World.block_lt_of_cell? _ _ Zv;first|rwa [Ql] at this|exact this) ZM.out))|(dsimp only;exact Nat.ne_of_lt (Nat.lt_of_lt_of_le (by have:=World.block_lt_of_cell? _ _ Zv;first|rwa [Ql] at this|exact this) ZM.out))) _).trans (((Qn (p:=⟨QS,_,none⟩) (by first|exact Nat.ne_of_lt (Nat.lt_of_lt_of_le (by have:=World.block_lt_of_cell? _ _ Zv;first|rwa [Ql] at this|exact this) ZM.out)|(rw [Ql];exact Nat.ne_of_lt (Nat.lt_of_lt_of_le (by have:=World.block_lt_of_cell? _ _ Zv;first|rwa [Ql] at this|exact this) ZM.out))|(show (Addr.add _ _).block≠_;rw [Ql];exact Nat.ne_of_lt (Nat.lt_of_lt_of_le (by have:=World.block_lt_of_cell? _ _ Zv;first|rwa [Ql] at this|exact this) ZM.out))|(dsimp only;exact Nat.ne_of_lt (Nat.lt_of_lt_of_le (by have:=World.block_lt_of_cell? _ _ Zv;first|rwa [Ql] at this|exact this) ZM.out))) _).trans (hHeld.2.2.2.2.2.2.2.2.2.2.2.1)))))))))))),((Qn (p:=⟨QS,_,none⟩) (by first|exact Nat.ne_of_lt (Nat.lt_of_lt_of_le (by have:=World.block_lt_of_cell? _ _ Zw;first|rwa [Ql] at this|exact this) ZM.out)|(rw [Ql];exact Nat.ne_of_lt (Nat.lt_of_lt_of_le (by have:=World.block_lt_of_cell? _ _ Zw;first|rwa [Ql] at this|exact this) ZM.out))|(show (Addr.add _ _).block≠_;rw [Ql];exact Nat.ne_of_lt (Nat.lt_of_lt_of_le (by have:=World.block_lt_of_cell? _ _ Zw;first|rwa [Ql] at this|exact this) ZM.out))|(dsimp only;exact Nat.ne_of_lt (Nat.lt_of_lt_of_le (by have:=World.block_lt_of_cell? _ _ Zw;first|rwa [Ql] at this|exact this) ZM.out))) _).trans (((Qn (p:=⟨QS,_,none⟩) (by first|exact Nat.ne_of_lt (Nat.lt_of_lt_of_le (by have:=World.block_lt_of_cell? _ _ Zw;first|rwa [Ql] at this|exact this) ZM.out)|(rw [Ql];exact Nat.ne_of_lt (Nat.lt_of_lt_of_le (by have:=World.block_lt_of_cell? _ _ Zw;first|rwa [Ql] at this|exact this) ZM.out))|(show (Addr.add _ _).block≠_;rw [Ql];exact Nat.ne_of_lt (Nat.lt_of_lt_of_le (by have:=World.block_lt_of_cell? _ _ Zw;first|rwa [Ql] at this|exact this) ZM.out))|(dsimp only;exact Nat.ne_of_lt (Nat.lt_of_lt_of_le (by have:=World.block_lt_of_cell? _ _ Zw;first|rwa [Ql] at this|exact this) ZM.out))) _).trans (((Qn (p:=⟨QS,_,none⟩) (by first|exact Nat.ne_of_lt (Nat.lt_of_lt_of_le (by have:=World.block_lt_of_cell? _ _ Zw;first|rwa [Ql] at this|exact this) ZM.out)|(rw [Ql];exact Nat.ne_of_lt (Nat.lt_of_lt_of_le (by have:=World.block_lt_of_cell? _ _ Zw;first|rwa [Ql] at this|exact this) ZM.out))|(show (Addr.add _ _).block≠_;rw [Ql];exact Nat.ne_of_lt (Nat.lt_of_lt_of_le (by have:=World.block_lt_of_cell? _ _ Zw;first|rwa [Ql] at this|exact this) ZM.out))|(dsimp only;exact Nat.ne_of_lt (Nat.lt_of_lt_of_le (by have:=World.block_lt_of_cell? _ _ Zw;first|rwa [Ql] at this|exact this) ZM.out))) _).trans (((Qn (p:=⟨QS,_,none⟩) (by first|exact Nat.ne_of_lt (Nat.lt_of_lt_of_le (by have:=World.block_lt_of_cell? _ _ Zw;first|rwa [Ql] at this|exact this) ZM.out)|(rw [Ql];exact Nat.ne_of_lt (Nat.lt_of_lt_of_le (by have:=World.block_lt_of_cell? _ _ Zw;first|rwa [Ql] at this|exact this) ZM.out))|(show (Addr.add _ _).block≠_;rw [Ql];exact Nat.ne_of_lt (Nat.lt_of_lt_of_le (by have:=World.block_lt_of_cell? _ _ Zw;first|rwa [Ql] at this|exact this) ZM.out))|(dsimp only;exact Nat.ne_of_lt (Nat.lt_of_lt_of_le (by have:=World.block_lt_of_cell? _ _ Zw;first|rwa [Ql] at this|exact this) ZM.out))) _).trans (((Qn (p:=⟨QS,_,none⟩) (by first|exact Nat.ne_of_lt (Nat.lt_of_lt_of_le (by have:=World.block_lt_of_cell? _ _ Zw;first|rwa [Ql] at this|exact this) ZM.out)|(rw [Ql];exact Nat.ne_of_lt (Nat.lt_of_lt_of_le (by have:=World.block_lt_of_cell? _ _ Zw;first|rwa [Ql] at this|exact this) ZM.out))|(show (Addr.add _ _).block≠_;rw [Ql];exact Nat.ne_of_lt (Nat.lt_of_lt_of_le (by have:=World.block_lt_of_cell? _ _ Zw;first|rwa [Ql] at this|exact this) ZM.out))|(dsimp only;exact Nat.ne_of_lt (Nat.lt_of_lt_of_le (by have:=World.block_lt_of_cell? _ _ Zw;first|rwa [Ql] at this|exact this) ZM.out))) _).trans (((Qn (p:=⟨QS,_,none⟩) (by first|exact Nat.ne_of_lt (Nat.lt_of_lt_of_le (by have:=World.block_lt_of_cell? _ _ Zw;first|rwa [Ql] at this|exact this) ZM.out)|(rw [Ql];exact Nat.ne_of_lt (Nat.lt_of_lt_of_le (by have:=World.block_lt_of_cell? _ _ Zw;first|rwa [Ql] at this|exact this) ZM.out))|(show (Addr.add _ _).block≠_;rw [Ql];exact Nat.ne_of_lt (Nat.lt_of_lt_of_le (by have:=World.block_lt_of_cell? _ _ Zw;first|rwa [Ql] at this|exact this) ZM.out))|(dsimp only;exact Nat.ne_of_lt (Nat.lt_of_lt_of_le (by have:=World.block_lt_of_cell? _ _ Zw;first|rwa [Ql] at this|exact this) ZM.out))) _).trans (hHeld.2.2.2.2.2.2.2.2.2.2.2.2))))))))))))⟩ (fun hHeld => ?_);clear hK K;refine qbm (UP HT_.out (by kernel_rfl)) ?_
               try go_wp2
               have n0_:Q0 (Kd.R (Kd.int .i64) 3 ((((((w50.setCell ⟨QS,0,none⟩ (.int .i64 Oe)).setCell ⟨QS,1,none⟩ (.int .i64 t173)).setCell ⟨QS,2,none⟩ (.int .i64 Uj)).setCell ⟨QS,3,none⟩ (.int .i64 t175)).setCell ⟨QS,4,none⟩ (.int .i64 UK)).setCell ⟨QS,5,none⟩ (.int .i64 WG)) w.heap.size (fun k_=>(w.heap.size≤k_)) u13 Kl):=⟨by (with_reducible repeat (first|apply Kd.R_alloc|apply Kd.R_drewN|apply Kd.R_drew));exact Kd.R_mono (Kd.R_far (p:=⟨QS,5,none⟩) (Kd.R_far (p:=⟨QS,4,none⟩) (Kd.R_far (p:=⟨QS,3,none⟩) (Kd.R_far (p:=⟨QS,2,none⟩) (Kd.R_far (p:=⟨QS,1,none⟩) (Kd.R_far (p:=⟨QS,0,none⟩) (Kd.R_types HO_13.out ZS.out (by decide)) (fun _ hk=>hk.2) (.int .i64 Oe)) (fun _ hk=>hk.2) (.int .i64 t173)) (fun _ hk=>hk.2) (.int .i64 Uj)) (fun _ hk=>hk.2) (.int .i64 t175)) (fun _ hk=>hk.2) (.int .i64 UK)) (fun _ hk=>hk.2) (.int .i64 WG)) (fun _ hk=>hk.1)⟩;have n1_:Q0 (((((((w50.setCell ⟨QS,0,none⟩ (.int .i64 Oe)).setCell ⟨QS,1,none⟩ (.int .i64 t173)).setCell ⟨QS,2,none⟩ (.int .i64 Uj)).setCell ⟨QS,3,none⟩ (.int .i64 t175)).setCell ⟨QS,4,none⟩ (.int .i64 UK)).setCell ⟨QS,5,none⟩ (.int .i64 WG)).heap[Jg]? = some (.cells #[.slice QC Qa.length Qs,.slice QA Qe.length Qt,.slice QE Qb.length Qu,.int .i64 Y0,.int .i64 QU] 39 (0,0))):=⟨by (with_reducible repeat (first|refine Q4 ?_ _|refine Q7 ?_|refine Q2 ?_ _));refine Qp ?_ Jy.out _;(with_reducible repeat (first|refine Q4 ?_ _|refine Q7 ?_|refine Q2 ?_ _));refine Qp ?_ Jy.out _;(with_reducible repeat (first|refine Q4 ?_ _|refine Q7 ?_|refine Q2 ?_ _));refine Qp ?_ Jy.out _;(with_reducible repeat (first|refine Q4 ?_ _|refine Q7 ?_|refine Q2 ?_ _));refine Qp ?_ Jy.out _;(with_reducible repeat (first|refine Q4 ?_ _|refine Q7 ?_|refine Q2 ?_ _));refine Qp ?_ Jy.out _;(with_reducible repeat (first|refine Q4 ?_ _|refine Q7 ?_|refine Q2 ?_ _));refine Qp ?_ Jy.out _;(with_reducible repeat (first|refine Q4 ?_ _|refine Q7 ?_|refine Q2 ?_ _));exact YW.out⟩;have n2_:Q0 (((((((w50.setCell ⟨QS,0,none⟩ (.int .i64 Oe)).setCell ⟨QS,1,none⟩ (.int .i64 t173)).setCell ⟨QS,2,none⟩ (.int .i64 Uj)).setCell ⟨QS,3,none⟩ (.int .i64 t175)).setCell ⟨QS,4,none⟩ (.int .i64 UK)).setCell ⟨QS,5,none⟩ (.int .i64 WG)).heap[YZ]? = some (.cells #[.slice QC Qa.length Qs,.slice QA Qe.length Qt,.slice QE Qb.length Qu,.int .i64 Y0,.int .i64 QU] 111 (0,0))):=⟨by (with_reducible repeat (first|refine Q4 ?_ _|refine Q7 ?_|refine Q2 ?_ _));refine Qp ?_ Yw.out _;(with_reducible repeat (first|refine Q4 ?_ _|refine Q7 ?_|refine Q2 ?_ _));refine Qp ?_ Yw.out _;(with_reducible repeat (first|refine Q4 ?_ _|refine Q7 ?_|refine Q2 ?_ _));refine Qp ?_ Yw.out _;(with_reducible repeat (first|refine Q4 ?_ _|refine Q7 ?_|refine Q2 ?_ _));refine Qp ?_ Yw.out _;(with_reducible repeat (first|refine Q4 ?_ _|refine Q7 ?_|refine Q2 ?_ _));refine Qp ?_ Yw.out _;(with_reducible repeat (first|refine Q4 ?_ _|refine Q7 ?_|refine Q2 ?_ _));refine Qp ?_ Yw.out _;(with_reducible repeat (first|refine Q4 ?_ _|refine Q7 ?_|refine Q2 ?_ _));exact Yd.out⟩;have n3_:Q0 (((((((w50.setCell ⟨QS,0,none⟩ (.int .i64 Oe)).setCell ⟨QS,1,none⟩ (.int .i64 t173)).setCell ⟨QS,2,none⟩ (.int .i64 Uj)).setCell ⟨QS,3,none⟩ (.int .i64 t175)).setCell ⟨QS,4,none⟩ (.int .i64 UK)).setCell ⟨QS,5,none⟩ (.int .i64 WG)).heap[Yz]? = some (.cells #[.int .i64 ZA,.int .i64 Zr,.int .i64 Zp,.int .i64 Zk,.int .i64 Zh,.int .i64 Za] 115 (0,0))):=⟨by (with_reducible repeat (first|refine Q4 ?_ _|refine Q7 ?_|refine Q2 ?_ _));refine Qp ?_ Yh.out _;(with_reducible repeat (first|refine Q4 ?_ _|refine Q7 ?_|refine Q2 ?_ _));refine Qp ?_ Yh.out _;(with_reducible repeat (first|refine Q4 ?_ _|refine Q7 ?_|refine Q2 ?_ _));refine Qp ?_ Yh.out _;(with_reducible repeat (first|refine Q4 ?_ _|refine Q7 ?_|refine Q2 ?_ _));refine Qp ?_ Yh.out _;(with_reducible repeat (first|refine Q4 ?_ _|refine Q7 ?_|refine Q2 ?_ _));refine Qp ?_ Yh.out _;(with_reducible repeat (first|refine Q4 ?_ _|refine Q7 ?_|refine Q2 ?_ _));refine Qp ?_ Yh.out _;(with_reducible repeat (first|refine Q4 ?_ _|refine Q7 ?_|refine Q2 ?_ _));exact YE.out⟩;have n4_:Q0 (((((((w50.setCell ⟨QS,0,none⟩ (.int .i64 Oe)).setCell ⟨QS,1,none⟩ (.int .i64 t173)).setCell ⟨QS,2,none⟩ (.int .i64 Uj)).setCell ⟨QS,3,none⟩ (.int .i64 t175)).setCell ⟨QS,4,none⟩ (.int .i64 UK)).setCell ⟨QS,5,none⟩ (.int .i64 WG)).heap[QS]? = some (.cells #[.int .i64 Oe,.int .i64 t173,.int .i64 Uj,.int .i64 t175,.int .i64 UK,.int .i64 WG] 115 (0,0))):=⟨by (with_reducible repeat (first|refine Q4 ?_ _|refine Q7 ?_|refine Q2 ?_ _));refine QH (cs:=#[.int .i64 Oe,.int .i64 t173,.int .i64 Uj,.int .i64 t175,.int .i64 UK,.int .i64 0]) ?_ 5 _ rfl;(with_reducible repeat (first|refine Q4 ?_ _|refine Q7 ?_|refine Q2 ?_ _));refine QH (cs:=#[.int .i64 Oe,.int .i64 t173,.int .i64 Uj,.int .i64 t175,.int .i64 0,.int .i64 0]) ?_ 4 _ rfl;(with_reducible repeat (first|refine Q4 ?_ _|refine Q7 ?_|refine Q2 ?_ _));refine QH (cs:=#[.int .i64 Oe,.int .i64 t173,.int .i64 Uj,.int .i64 0,.int .i64 0,.int .i64 0]) ?_ 3 _ rfl;(with_reducible repeat (first|refine Q4 ?_ _|refine Q7 ?_|refine Q2 ?_ _));refine QH (cs:=#[.int .i64 Oe,.int .i64 t173,.int .i64 0,.int .i64 0,.int .i64 0,.int .i64 0]) ?_ 2 _ rfl;(with_reducible repeat (first|refine Q4 ?_ _|refine Q7 ?_|refine Q2 ?_ _));refine QH (cs:=#[.int .i64 Oe,.int .i64 0,.int .i64 0,.int .i64 0,.int .i64 0,.int .i64 0]) ?_ 1 _ rfl;(with_reducible repeat (first|refine Q4 ?_ _|refine Q7 ?_|refine Q2 ?_ _));refine QH (cs:=#[.int .i64 0,.int .i64 0,.int .i64 0,.int .i64 0,.int .i64 0,.int .i64 0]) ?_ 0 _ rfl;(with_reducible repeat (first|refine Q4 ?_ _|refine Q7 ?_|refine Q2 ?_ _));exact ZS.out⟩;have n5_:Q0 (Below w.heap.size w ((((((w50.setCell ⟨QS,0,none⟩ (.int .i64 Oe)).setCell ⟨QS,1,none⟩ (.int .i64 t173)).setCell ⟨QS,2,none⟩ (.int .i64 Uj)).setCell ⟨QS,3,none⟩ (.int .i64 t175)).setCell ⟨QS,4,none⟩ (.int .i64 UK)).setCell ⟨QS,5,none⟩ (.int .i64 WG))):=⟨by repeat (first|(with_reducible first|exact HB.out|apply Q3|apply Q1|apply Q6|refine Q5 ?_ Jd.out|refine Q5 ?_ Jl.out|refine Q5 ?_ Ug.out|refine Q5 ?_ Xx.out)|exact HB.out)⟩
               (try clear HO_13)
               (try clear YW)
               (try clear Yd)
               (try clear YE)
               (try clear ZS)
               (try clear HB)
               generalize ((((((w50.setCell ⟨QS,0,none⟩ (.int .i64 Oe)).setCell ⟨QS,1,none⟩ (.int .i64 t173)).setCell ⟨QS,2,none⟩ (.int .i64 Uj)).setCell ⟨QS,3,none⟩ (.int .i64 t175)).setCell ⟨QS,4,none⟩ (.int .i64 UK)).setCell ⟨QS,5,none⟩ (.int .i64 WG))=w57 at n0_ n1_ n2_ n3_ n4_ n5_ ⊢
               have HO_13:=n0_;have YW:=n1_;have Yd:=n2_;have YE:=n3_;have ZS:=n4_;have HB:=n5_;clear n0_ n1_ n2_ n3_ n4_ n5_;have n0_:=Q0.mk (Kd.R_drew HO_13.out);have n1_:=Q0.mk (Q7 YW.out);have n2_:=Q0.mk (Q7 Yd.out);have n3_:=Q0.mk (Q7 YE.out);have n4_:=Q0.mk (Q7 ZS.out);have n5_:=Q0.mk (Q6 HB.out);clear HO_13 YW Yd YE ZS HB;have HO_13:=n0_;have YW:=n1_;have Yd:=n2_;have YE:=n3_;have ZS:=n4_;have HB:=n5_;clear n0_ n1_ n2_ n3_ n4_ n5_;refine Xp (n:=7) (S:=fun w'=>w'.cell? ⟨QS,0,none⟩=some (.int .i64 Oe)∧w'.cell? ⟨QS,1,none⟩=some (.int .i64 t173)∧w'.cell? ⟨QS,2,none⟩=some (.int .i64 Uj)∧w'.cell? ⟨QS,3,none⟩=some (.int .i64 t175)∧w'.cell? ⟨QS,4,none⟩=some (.int .i64 UK)∧w'.cell? ⟨QS,5,none⟩=some (.int .i64 WG)) (ds:=[]) #[false,false,false,false,false,false,false] (by kernel_rfl) rfl rfl ⟨(Q8 ZS.out 0).trans rfl,(Q8 ZS.out 1).trans rfl,(Q8 ZS.out 2).trans rfl,(Q8 ZS.out 3).trans rfl,(Q8 ZS.out 4).trans rfl,(Q8 ZS.out 5).trans rfl⟩ (fun hHeld => ?_)
               generalize w57.drew=w58 at HO_13 YW Yd YE ZS HB hHeld ⊢
               refine Yr (i:=0) (N:=some 78) (v:=?_) (a':=?_) #[true,false,false,false,false,false,false] rfl rfl (by kernel_rfl) (fun _ _ _ h=>h) (Or.inl ⟨by rfl,?_⟩) ?_ ?_
               rotate_left
               ·
                intro w'
                go_simp
                with_reducible rfl
               rotate_left
               ·
                simp only [Act.put,List.setIfInBounds_toArray,List.set_cons_zero,List.set_cons_succ,QK,QP]
                rfl
               refine Yr (i:=1) (N:=some 79) (v:=?_) (a':=?_) #[true,true,false,false,false,false,false] rfl rfl (by kernel_rfl) (fun _ _ _ h=>h) (Or.inl ⟨by rfl,?_⟩) ?_ ?_
               rotate_left
               ·
                intro w'
                go_simp
                with_reducible rfl
               rotate_left
               ·
                simp only [Act.put,List.setIfInBounds_toArray,List.set_cons_zero,List.set_cons_succ,QK,QP]
                rfl
               refine JZ (i:=4) (N:=some 82) (v:=?_) (a':=?_) #[true,true,false,false,true,false,false] rfl rfl (by kernel_rfl) (fun _ _ _ h=>h) (Or.inl ⟨by rfl,?_⟩) hHeld ?_ ?_
               rotate_left
               ·
                rintro w' ⟨s0,s1,s2,s3,s4,s5⟩
                go_simp
                with_reducible rfl
               rotate_left
               ·
                simp only [Act.put,List.setIfInBounds_toArray,List.set_cons_zero,List.set_cons_succ,QK,QP]
                rfl
               refine one_ (i:=2) (N:=some 80) #[true,true,true,false,true,false,false] rfl rfl (by kernel_rfl) (by decide) (fun K hK => ?_);refine qkA (w1:=?_) (v:=?_) (by rfl) rfl ?_ ?_
               rotate_left 2
               ·
                go_simp
                constructor
                ·
                 rfl
                rfl
               refine hK.out _ _ ⟨(Q8 (Q2 ZS.out _) 0).trans rfl,(Q8 (Q2 ZS.out _) 1).trans rfl,(Q8 (Q2 ZS.out _) 2).trans rfl,(Q8 (Q2 ZS.out _) 3).trans rfl,(Q8 (Q2 ZS.out _) 4).trans rfl,(Q8 (Q2 ZS.out _) 5).trans rfl⟩ (fun hHeld => ?_);clear hK K;refine Kk (a':=?_) ?_ ?_
               rotate_left
               ·
                show Act.put _ (some 80) _=_
                simp only [Act.put,List.setIfInBounds_toArray,List.set_cons_zero,List.set_cons_succ,QK,QP]
                rfl
               refine one_ (i:=3) (N:=some 81) #[true,true,true,true,true,false,false] rfl rfl (by kernel_rfl) (by decide) (fun K hK => ?_);refine Kd.R_append_step (Kd.int .i64) (w0:=w) w.heap.size (by rfl) (.tmp 78) (.tmp 80) 37 3 (.int .i64 0) 8 rfl Try.underlying37 qcl rfl (by decide) (by omega) u13 Kl t171 [.int .i64 t171] (fun k_=>(w.heap.size≤k_)) (fun _=>False) rfl rfl ?aP (fun _ hk=>hk.elim) ?aF ?aO ?aB ?aS ?aL ?_
               (case aP=>exact rfl)
               (case aB=>exact (by repeat (first|(with_reducible first|exact HB.out|apply Q3|apply Q1|apply Q6|refine Q5 ?_ Jd.out|refine Q5 ?_ Jl.out|refine Q5 ?_ Ug.out|refine Q5 ?_ Xx.out)|exact HB.out)))
               (case aF=>exact (fun k_ hk=>(Nat.le_trans (Qi (by repeat (first|(with_reducible first|exact HB.out|apply Q3|apply Q1|apply Q6|refine Q5 ?_ Jd.out|refine Q5 ?_ Jl.out|refine Q5 ?_ Ug.out|refine Q5 ?_ Xx.out)|exact HB.out))) hk)))
               (case aO=>exact (by (with_reducible repeat (first|apply Kd.R_alloc|apply Kd.R_drewN|apply Kd.R_drew));exact HO_13.out))
               (case aS=>exact (Qi (by repeat (first|(with_reducible first|exact HB.out|apply Q3|apply Q1|apply Q6|refine Q5 ?_ Jd.out|refine Q5 ?_ Jl.out|refine Q5 ?_ Ug.out|refine Q5 ?_ Xx.out)|exact HB.out))))
               (case aL=>have:=qvK.out;omega)
               intro qJE w59 ho hb hg hat;rw [← qvL.out] at ho;have n0_:=Q0.mk (Gg (g:=Jg) (by (with_reducible repeat (first|refine Q4 ?_ _|refine Q7 ?_|refine Q2 ?_ _));exact YW.out) hg (Kd.R_ne HO_13.out YW.out (by decide)));have n1_:=Q0.mk (Gg (g:=YZ) (by (with_reducible repeat (first|refine Q4 ?_ _|refine Q7 ?_|refine Q2 ?_ _));exact Yd.out) hg (Kd.R_ne HO_13.out Yd.out (by decide)));have n2_:=Q0.mk (Gg (g:=Yz) (by (with_reducible repeat (first|refine Q4 ?_ _|refine Q7 ?_|refine Q2 ?_ _));exact YE.out) hg (Kd.R_ne HO_13.out YE.out (by decide)));have n3_:=Q0.mk (Gg (g:=QS) (by (with_reducible repeat (first|refine Q4 ?_ _|refine Q7 ?_|refine Q2 ?_ _));exact ZS.out) hg (Kd.R_ne HO_13.out ZS.out (by decide)));have n4_:=Q0.mk (hb);have n5_:=Q0.mk (ho);clear YW Yd YE ZS HB HO_13;have YW:=n0_;have Yd:=n1_;have YE:=n2_;have ZS:=n3_;have HB:=n4_;have qvz:=n5_;clear n0_ n1_ n2_ n3_ n4_ n5_ ho hb hg hat;refine hK.out _ _ ⟨(Q8 ZS.out 0).trans rfl,(Q8 ZS.out 1).trans rfl,(Q8 ZS.out 2).trans rfl,(Q8 ZS.out 3).trans rfl,(Q8 ZS.out 4).trans rfl,(Q8 ZS.out 5).trans rfl⟩ (fun hHeld => ?_);clear hK K;refine Kk (a':=?_) ?_ ?_
               rotate_left
               ·
                show Act.put _ (some 81) _=_
                simp only [Act.put,List.setIfInBounds_toArray,List.set_cons_zero,List.set_cons_succ,QK,QP]
                rfl
               refine Yr (i:=5) (N:=some 13) (v:=?_) (a':=?_) #[true,true,true,true,true,true,false] rfl rfl (by kernel_rfl) (fun _ _ _ h=>h) (Or.inl ⟨by rfl,?_⟩) ?_ ?_
               rotate_left
               ·
                intro w'
                go_simp
                with_reducible rfl
               rotate_left
               ·
                simp only [Act.put,List.setIfInBounds_toArray,List.set_cons_zero,List.set_cons_succ,QK,QP]
                rfl
               refine one_ (i:=6) (N:=none) #[true,true,true,true,true,true,true] rfl rfl (by kernel_rfl) (by decide) (fun K hK => ?_);have qJo:w59.cell? ⟨Yz,0,none⟩=some (.int .i64 ZA):=(Q8 YE.out 0).trans rfl;have qGW:=Q9 YE.out 0;have qD3:=J4.out;have qD4:=J6.out;have qD5:=Ym.out;have qDh:=OI.out;have qDi:=OJ.out;have qDj:=Yh.out;have qJp:w59.cell? ⟨Yz,1,none⟩=some (.int .i64 Zr):=(Q8 YE.out 1).trans rfl;have qGX:=Q9 YE.out 1;have qD6:=J4.out;have qD7:=J6.out;have qD8:=Ym.out;have qDk:=OI.out;have qDl:=OJ.out;have qDm:=Yh.out;have qJq:w59.cell? ⟨Yz,2,none⟩=some (.int .i64 Zp):=(Q8 YE.out 2).trans rfl;have qGY:=Q9 YE.out 2;have qD9:=J4.out;have qEa:=J6.out;have qEb:=Ym.out;have qDn:=OI.out;have qDo:=OJ.out;have qDp:=Yh.out;have qJr:w59.cell? ⟨Yz,3,none⟩=some (.int .i64 Zk):=(Q8 YE.out 3).trans rfl;have qGZ:=Q9 YE.out 3;have qEc:=J4.out;have qEd:=J6.out;have qEe:=Ym.out;have qDq:=OI.out;have qDr:=OJ.out;have qDs:=Yh.out;have qJs:w59.cell? ⟨Yz,4,none⟩=some (.int .i64 Zh):=(Q8 YE.out 4).trans rfl;have qG0:=Q9 YE.out 4;have qEf:=J4.out;have qEg:=J6.out;have qEh:=Ym.out;have qDt:=OI.out;have qDu:=OJ.out;have qDv:=Yh.out;have qJt:w59.cell? ⟨Yz,5,none⟩=some (.int .i64 Za):=(Q8 YE.out 5).trans rfl;have qG1:=Q9 YE.out 5;have qEi:=J4.out;have qEj:=J6.out;have qEk:=Ym.out;have qDw:=OI.out;have qDx:=OJ.out;have qDy:=Yh.out;refine qo9 (w1:=?_) (by rfl) rfl ?_ ?_
               rotate_left
               ·
                go_simp
                rfl
               refine hK.out _ _ ⟨((Qn (p:=⟨Yz,_,none⟩) Ym.out _).trans (((Qn (p:=⟨Yz,_,none⟩) Ym.out _).trans (((Qn (p:=⟨Yz,_,none⟩) Ym.out _).trans (((Qn (p:=⟨Yz,_,none⟩) Ym.out _).trans (((Qn (p:=⟨Yz,_,none⟩) Ym.out _).trans (((Qn (p:=⟨Yz,_,none⟩) Ym.out _).trans (hHeld.1)))))))))))),((Qn (p:=⟨Yz,_,none⟩) Ym.out _).trans (((Qn (p:=⟨Yz,_,none⟩) Ym.out _).trans (((Qn (p:=⟨Yz,_,none⟩) Ym.out _).trans (((Qn (p:=⟨Yz,_,none⟩) Ym.out _).trans (((Qn (p:=⟨Yz,_,none⟩) Ym.out _).trans (((Qn (p:=⟨Yz,_,none⟩) Ym.out _).trans (hHeld.2.1)))))))))))),((Qn (p:=⟨Yz,_,none⟩) Ym.out _).trans (((Qn (p:=⟨Yz,_,none⟩) Ym.out _).trans (((Qn (p:=⟨Yz,_,none⟩) Ym.out _).trans (((Qn (p:=⟨Yz,_,none⟩) Ym.out _).trans (((Qn (p:=⟨Yz,_,none⟩) Ym.out _).trans (((Qn (p:=⟨Yz,_,none⟩) Ym.out _).trans (hHeld.2.2.1)))))))))))),((Qn (p:=⟨Yz,_,none⟩) Ym.out _).trans (((Qn (p:=⟨Yz,_,none⟩) Ym.out _).trans (((Qn (p:=⟨Yz,_,none⟩) Ym.out _).trans (((Qn (p:=⟨Yz,_,none⟩) Ym.out _).trans (((Qn (p:=⟨Yz,_,none⟩) Ym.out _).trans (((Qn (p:=⟨Yz,_,none⟩) Ym.out _).trans (hHeld.2.2.2.1)))))))))))),((Qn (p:=⟨Yz,_,none⟩) Ym.out _).trans (((Qn (p:=⟨Yz,_,none⟩) Ym.out _).trans (((Qn (p:=⟨Yz,_,none⟩) Ym.out _).trans (((Qn (p:=⟨Yz,_,none⟩) Ym.out _).trans (((Qn (p:=⟨Yz,_,none⟩) Ym.out _).trans (((Qn (p:=⟨Yz,_,none⟩) Ym.out _).trans (hHeld.2.2.2.2.1)))))))))))),((Qn (p:=⟨Yz,_,none⟩) Ym.out _).trans (((Qn (p:=⟨Yz,_,none⟩) Ym.out _).trans (((Qn (p:=⟨Yz,_,none⟩) Ym.out _).trans (((Qn (p:=⟨Yz,_,none⟩) Ym.out _).trans (((Qn (p:=⟨Yz,_,none⟩) Ym.out _).trans (((Qn (p:=⟨Yz,_,none⟩) Ym.out _).trans (hHeld.2.2.2.2.2))))))))))))⟩ (fun hHeld => ?_);clear hK K;refine qbm (by kernel_rfl) ?_
               try go_wp2
               go_roundg k4
               case measure=>have:=HJ3.out;have:=HK2.out;have:=Wk.out;have:=HK4.out;omega
               case rel=>exact ⟨(qyh),(wrap64 (Jq+1)),(Oe),(t173),(Uj),(t175),(UK),(WG),(by first|rfl|(simp;done)|(simp [*];done)),H',⟨by have:=HJ3.out;have:=HK2.out;have:=Wk.out;have:=HK4.out;omega⟩,⟨by (with_reducible repeat (first|apply Kd.R_alloc|apply Kd.R_drewN|apply Kd.R_drew));exact Kd.R_mono (Kd.R_far (p:=⟨Yz,5,none⟩) (Kd.R_far (p:=⟨Yz,4,none⟩) (Kd.R_far (p:=⟨Yz,3,none⟩) (Kd.R_far (p:=⟨Yz,2,none⟩) (Kd.R_far (p:=⟨Yz,1,none⟩) (Kd.R_far (p:=⟨Yz,0,none⟩) (Kd.R_types qvz.out YE.out (by decide)) (fun _ hk=>hk.2) (.int .i64 Oe)) (fun _ hk=>hk.2) (.int .i64 t173)) (fun _ hk=>hk.2) (.int .i64 Uj)) (fun _ hk=>hk.2) (.int .i64 t175)) (fun _ hk=>hk.2) (.int .i64 UK)) (fun _ hk=>hk.2) (.int .i64 WG)) (fun _ hk=>hk.1)⟩,⟨by (with_reducible repeat (first|refine Q4 ?_ _|refine Q7 ?_|refine Q2 ?_ _));refine Qp ?_ J4.out _;(with_reducible repeat (first|refine Q4 ?_ _|refine Q7 ?_|refine Q2 ?_ _));refine Qp ?_ J4.out _;(with_reducible repeat (first|refine Q4 ?_ _|refine Q7 ?_|refine Q2 ?_ _));refine Qp ?_ J4.out _;(with_reducible repeat (first|refine Q4 ?_ _|refine Q7 ?_|refine Q2 ?_ _));refine Qp ?_ J4.out _;(with_reducible repeat (first|refine Q4 ?_ _|refine Q7 ?_|refine Q2 ?_ _));refine Qp ?_ J4.out _;(with_reducible repeat (first|refine Q4 ?_ _|refine Q7 ?_|refine Q2 ?_ _));refine Qp ?_ J4.out _;(with_reducible repeat (first|refine Q4 ?_ _|refine Q7 ?_|refine Q2 ?_ _));exact YW.out⟩,⟨by (with_reducible repeat (first|refine Q4 ?_ _|refine Q7 ?_|refine Q2 ?_ _));refine Qp ?_ J6.out _;(with_reducible repeat (first|refine Q4 ?_ _|refine Q7 ?_|refine Q2 ?_ _));refine Qp ?_ J6.out _;(with_reducible repeat (first|refine Q4 ?_ _|refine Q7 ?_|refine Q2 ?_ _));refine Qp ?_ J6.out _;(with_reducible repeat (first|refine Q4 ?_ _|refine Q7 ?_|refine Q2 ?_ _));refine Qp ?_ J6.out _;(with_reducible repeat (first|refine Q4 ?_ _|refine Q7 ?_|refine Q2 ?_ _));refine Qp ?_ J6.out _;(with_reducible repeat (first|refine Q4 ?_ _|refine Q7 ?_|refine Q2 ?_ _));refine Qp ?_ J6.out _;(with_reducible repeat (first|refine Q4 ?_ _|refine Q7 ?_|refine Q2 ?_ _));exact Yd.out⟩,⟨by (with_reducible repeat (first|refine Q4 ?_ _|refine Q7 ?_|refine Q2 ?_ _));refine QH (cs:=#[.int .i64 Oe,.int .i64 t173,.int .i64 Uj,.int .i64 t175,.int .i64 UK,.int .i64 Za]) ?_ 5 _ rfl;(with_reducible repeat (first|refine Q4 ?_ _|refine Q7 ?_|refine Q2 ?_ _));refine QH (cs:=#[.int .i64 Oe,.int .i64 t173,.int .i64 Uj,.int .i64 t175,.int .i64 Zh,.int .i64 Za]) ?_ 4 _ rfl;(with_reducible repeat (first|refine Q4 ?_ _|refine Q7 ?_|refine Q2 ?_ _));refine QH (cs:=#[.int .i64 Oe,.int .i64 t173,.int .i64 Uj,.int .i64 Zk,.int .i64 Zh,.int .i64 Za]) ?_ 3 _ rfl;(with_reducible repeat (first|refine Q4 ?_ _|refine Q7 ?_|refine Q2 ?_ _));refine QH (cs:=#[.int .i64 Oe,.int .i64 t173,.int .i64 Zp,.int .i64 Zk,.int .i64 Zh,.int .i64 Za]) ?_ 2 _ rfl;(with_reducible repeat (first|refine Q4 ?_ _|refine Q7 ?_|refine Q2 ?_ _));refine QH (cs:=#[.int .i64 Oe,.int .i64 Zr,.int .i64 Zp,.int .i64 Zk,.int .i64 Zh,.int .i64 Za]) ?_ 1 _ rfl;(with_reducible repeat (first|refine Q4 ?_ _|refine Q7 ?_|refine Q2 ?_ _));refine QH (cs:=#[.int .i64 ZA,.int .i64 Zr,.int .i64 Zp,.int .i64 Zk,.int .i64 Zh,.int .i64 Za]) ?_ 0 _ rfl;(with_reducible repeat (first|refine Q4 ?_ _|refine Q7 ?_|refine Q2 ?_ _));exact YE.out⟩,⟨by repeat (first|(with_reducible first|exact HB.out|apply Q3|apply Q1|apply Q6|refine Q5 ?_ Jd.out|refine Q5 ?_ Jl.out|refine Q5 ?_ Ug.out|refine Q5 ?_ Xx.out)|exact HB.out)⟩⟩
              rw [if_neg c46] at H
              exact absurd H (by simp)
             rw [if_neg c44] at H
             exact absurd H (by simp)
            rw [if_neg c43] at H
            exact absurd H (by simp)
           rw [if_neg c42] at H
           exact absurd H (by simp)
          rw [if_neg c41] at H;have c41b0:decide (Jq<(l1.length:Int))=false:=decide_eq_false c41;clear c41
          by_cases c66:0≤(Kl.length:Int)
          ·
           rw [if_pos c66] at H;have c66b0:=eq_true c66;have c66b1:decide (0≤(Kl.length:Int))=true:=decide_eq_true c66;clear c66
           by_cases c67:(Kl.length:Int)≤(Kl.length:Int)
           ·
            rw [if_pos c67] at H;have c67b0:=eq_true c67;have c67b1:decide ((Kl.length:Int)≤(Kl.length:Int))=true:=decide_eq_true c67;clear c67;obtain ⟨quU,qh0⟩:∃ y_:List Int,y_=(Kl.take ((Kl.length:Int):Int).toNat):=⟨_,rfl⟩
            replace H:(some (quU,0))=some (r1,r2):=by first|(rw [qh0];with_reducible exact H)|(have H2_:=(Option.bind_some _ _).symm.trans H;rw [qh0];with_reducible exact H2_)|(have H2_:=(Option.bind_some _ _).symm.trans H;with_reducible exact H2_)|with_reducible exact H|(rw [qh0];exact H)|exact H
            have qsg:=Q0.mk qh0;clear qh0;simp only [Option.some.injEq,Prod.mk.injEq] at H;obtain ⟨rfl,rfl⟩:=H;obtain ⟨qEx,qEL,qFm⟩:=Kd.R_slice HO_13.out;subst qFm;have q69:((Kl.length:Int):Int)≤((Kl.length:Int):Int):=of_decide_eq_true (by first|(with_reducible assumption)|assumption);obtain ⟨qJB,qsM,_,qx4,_⟩:=info_parts qcl;have qFu:=WC (P:=Try.prog) 37 3 Try.underlying37 qsM qEx Kl.length qEL (Kd.R_reads' HO_13.out).2.1;have qt7:=Kd.R_take (m:=((Kl.length:Int):Int).toNat) HO_13.out (by omega);have qx8:quU.length=((Kl.length:Int):Int).toNat:=(by rw [qsg.out,List.length_take];omega);rw [← qsg.out] at qt7
            have qx9:Kl.length=quU.length:=by rw [qx8];omega
            have qEC:=Q0.mk qx9;clear qx8 qx9 qsM qx4 HO_13;have qvA:=Q0.mk qt7;clear qt7;replace q69:=eq_true q69
            go_wp2
            go_ret2
            exact ⟨_,by first|rfl|(simp [Qx,Qy]<;>rfl)|(simp [*,Qx,Qy]<;>rfl),qnS (by (with_reducible repeat (first|apply Kd.R_alloc|apply Kd.R_drewN|apply Kd.R_drew));exact qvA.out) _ qEC.out,by repeat (first|(with_reducible first|exact HB.out|apply Q3|apply Q1|apply Q6|refine Q5 ?_ Jd.out|refine Q5 ?_ Jl.out|refine Q5 ?_ Ug.out)|exact HB.out)⟩
           rw [if_neg c67] at H
           exact absurd H (by simp)
          rw [if_neg c66] at H
          exact absurd H (by simp)
       replace c32:=Bool.eq_false_iff.mpr c32;subst c32
       have H1:(some (([]:List Int),92))=some (r1,r2):=by rw [if_neg (show ¬ (false=true) by decide)] at H;exact H
       clear H;have H:=H1;clear H1;simp only [Option.some.injEq,Prod.mk.injEq] at H;obtain ⟨rfl,rfl⟩:=H
       go_wp2
       go_ret2
       exact ⟨_,by first|rfl|(simp [Qx,Qy]<;>rfl)|(simp [*,Qx,Qy]<;>rfl),(by first|exact Kd.V_nil _ _ _ _ _|(show Kd.V _ _ _ _ _ (.slice none 0 0) [];exact Kd.V_nil _ _ _ _ _)),by repeat (first|(with_reducible first|exact HB.out|apply Q3|apply Q1|apply Q6|refine Q5 ?_ Jd.out|refine Q5 ?_ Jl.out)|exact HB.out)⟩
end
section
attribute [local go_sem] Ys Yu YG YH Yj Yk Yt Yv
def G4.f (a0:Int) (a1:Int):Option (Int):=(Y6.f a0 a1).bind fun qnf=>(if a1=0 then (none) else (some (wrap64 (Int.tdiv (wrap64 (a0-qnf)) a1))))
set_option maxHeartbeats 8000000 in
set_option maxRecDepth 100000 in
theorem G4.calls (a0:Int) (a1:Int) (r:Int) (w:World) (h:G4.f a0 a1=some r) :
  Calls Try.prog 47 #[.int .i64 a0,.int .i64 a1] w fun e w'=>e = .returned (.int .i64 r)∧YF w w':=by
 have H:((Y6.f a0 a1).bind fun qnf=>(if a1=0 then (none) else (some (wrap64 (Int.tdiv (wrap64 (a0-qnf)) a1)))))=some r:=h
 clear h
 replace H:=Option.bind_eq_some_iff.mp H
 obtain ⟨qnf,A30,H⟩:=H
 replace H:(if a1=0 then (none) else (some (wrap64 (Int.tdiv (wrap64 (a0-qnf)) a1))))=some r:=H
 have A3:=Q0.mk A30
 clear A30
 by_cases c4:a1=0
 ·
  rw [if_pos c4] at H
  exact absurd H (by simp)
 rw [if_neg c4] at H
 have c4b0:(a1==0)=false:=beq_eq_false_iff_ne.mpr c4
 have c4b1:(a1 != 0)=true:=bne_iff_ne.mpr c4
 obtain rfl:=Option.some.inj H
 go_enter Try.func47,Try.ntmps47
 go_wp2_with (first|((with_reducible refine QD (f:=36) rfl ?_);refine YC (some 8) rfl rfl Try.func36 (by kernel_rfl) rfl #[.int .i64 a0,.int .i64 a1] rfl (by (try simp only [List.map_toArray,List.map_cons,List.map_nil]);first|done|rfl|(simp only [List.length_drop,List.length_take];rfl)) ?_;(with_reducible refine (Y6.calls a0 a1 qnf _ A3.out).mono ?_);rintro e w' ⟨rfl,⟨nd,rfl⟩⟩;refine ⟨_,rfl,?_⟩))
 go_ret
 exact ⟨by first|rfl|(simp;done)|(simp [*];done),by repeat (first|exact YF.refl _|apply YF.step)⟩
end
section
attribute [local go_sem] Ys Yu YG YH Yj Yk Yt Yv
def Gn.f (a0:Int) (a1:Int):Option (Int):=(G4.f (wrap64 (-a0)) a1).bind fun qng=>(some (wrap64 (-qng)))
set_option maxHeartbeats 8000000 in
set_option maxRecDepth 100000 in
theorem Gn.calls (a0:Int) (a1:Int) (r:Int) (w:World) (h:Gn.f a0 a1=some r) :
  Calls Try.prog 48 #[.int .i64 a0,.int .i64 a1] w fun e w'=>e = .returned (.int .i64 r)∧YF w w':=by
 have H:((G4.f (wrap64 (-a0)) a1).bind fun qng=>(some (wrap64 (-qng))))=some r:=h
 clear h
 replace H:=Option.bind_eq_some_iff.mp H
 obtain ⟨qng,A30,H⟩:=H
 replace H:(some (wrap64 (-qng)))=some r:=H
 have A3:=Q0.mk A30
 clear A30
 obtain rfl:=Option.some.inj H
 go_enter Try.func48,Try.ntmps48
 go_wp2_with (first|((with_reducible refine QD (f:=47) rfl ?_);refine YC (some 8) rfl rfl Try.func47 (by kernel_rfl) rfl #[.int .i64 (wrap64 (-a0)),.int .i64 a1] rfl (by (try simp only [List.map_toArray,List.map_cons,List.map_nil]);first|done|rfl|(simp only [List.length_drop,List.length_take];rfl)) ?_;(with_reducible refine (G4.calls (wrap64 (-a0)) a1 qng _ A3.out).mono ?_);rintro e w' ⟨rfl,⟨nd,rfl⟩⟩;refine ⟨_,rfl,?_⟩))
 go_ret
 exact ⟨by first|rfl|(simp;done)|(simp [*];done),by repeat (first|exact YF.refl _|apply YF.step)⟩
end
section
attribute [local go_sem] Ys Yu YG YH Yj Yk Yt Yv
def Ji.f (l0:List Int) (a1:Int):Option (Int):=if (l0.length:Int)=0 then (some 0) else ((Y6.f a1 (l0.length:Int)).bind fun Xq=>(if 0≤Xq then (if Xq<(l0.length:Int) then (some (rd l0 Xq)) else (none)) else (none)))
set_option maxHeartbeats 8000000 in
set_option maxRecDepth 100000 in
theorem Ji.calls (A0:Option Addr) (c0:Nat) (l0:List Int) (a1:Int) (r:Int) (w:World) (hr0:Kd.C (Kd.int .i64) w A0 l0.length l0) (hc0:l0.length≤c0) (h:Ji.f l0 a1=some r) :
  Calls Try.prog 42 #[.slice A0 l0.length c0,.int .i64 a1] w fun e w'=>e = .returned (.int .i64 r)∧YF w w':=by
 have HR0:=Q0.mk hr0
 have HC0:=Q0.mk hc0
 clear hr0 hc0
 have H:(if (l0.length:Int)=0 then (some 0) else ((Y6.f a1 (l0.length:Int)).bind fun Xq=>(if 0≤Xq then (if Xq<(l0.length:Int) then (some (rd l0 Xq)) else (none)) else (none))))=some r:=h
 clear h
 by_cases c3:(l0.length:Int)=0
 ·
  rw [if_pos c3] at H
  have c3b0:((l0.length:Int)==0)=true:=beq_iff_eq.mpr c3
  have c3b1:((l0.length:Int) != 0)=false:=bne_eq_false_iff_eq.mpr c3
  clear c3
  obtain rfl:=Option.some.inj H
  go_enter Try.func42,Try.ntmps42
  go_wp2
  go_ret
  exact ⟨by first|rfl|(simp;done)|(simp [*];done),by repeat (first|exact YF.refl _|apply YF.step)⟩
 rw [if_neg c3] at H
 have c3b0:((l0.length:Int)==0)=false:=beq_eq_false_iff_ne.mpr c3
 have c3b1:((l0.length:Int) != 0)=true:=bne_iff_ne.mpr c3
 have c3b2:¬ (l0=[]):=fun h_=>c3 (by rw [h_];rfl)
 replace H:=Option.bind_eq_some_iff.mp H
 obtain ⟨Xq,A40,H⟩:=H
 replace H:(if 0≤Xq then (if Xq<(l0.length:Int) then (some (rd l0 Xq)) else (none)) else (none))=some r:=H
 have A4:=Q0.mk A40
 clear A40
 by_cases c5:0≤Xq
 ·
  rw [if_pos c5] at H
  have c5b0:decide (0≤Xq)=true:=decide_eq_true c5
  clear c5
  by_cases c6:Xq<(l0.length:Int)
  ·
   rw [if_pos c6] at H
   have c6b0:decide (Xq<(l0.length:Int))=true:=decide_eq_true c6
   clear c6
   obtain rfl:=Option.some.inj H
   go_enter Try.func42,Try.ntmps42
   go_wp2_with (first|((with_reducible refine QD (f:=36) rfl ?_);refine YC (some 12) rfl rfl Try.func36 (by kernel_rfl) rfl #[.int .i64 a1,.int .i64 (l0.length:Int)] rfl (by (try simp only [List.map_toArray,List.map_cons,List.map_nil]);first|done|rfl|(simp only [List.length_drop,List.length_take];rfl)) ?_;(with_reducible refine (Y6.calls a1 (l0.length:Int) Xq _ A4.out).mono ?_);rintro e w' ⟨rfl,⟨nd,rfl⟩⟩;refine ⟨_,rfl,?_⟩;have quh:0≤(Xq:Int):=of_decide_eq_true (by first|(with_reducible assumption)|assumption);have quw:Xq<(l0.length:Int):=of_decide_eq_true (by first|(with_reducible assumption)|assumption);obtain ⟨qGz,qET,qEm⟩:=Kd.at_int HR0.out Xq quh quw;cases qET;replace quh:=eq_true quh;replace quw:=eq_true quw))
   go_ret
   exact ⟨by first|rfl|(simp;done)|(simp [*];done),by repeat (first|exact YF.refl _|apply YF.step)⟩
  rw [if_neg c6] at H
  exact absurd H (by simp)
 rw [if_neg c5] at H
 exact absurd H (by simp)
end
section
attribute [local go_sem] Ys Yu YG YH Yj Yk Yt Yv
def QF.l0:Nat→Int→Int→Int→List Int→List Int→Int→List (S39)→List Int→List (List (List Int))→Option (List Int × Int)
 | 0,_,_,_,_,_,_,_,_,_=>none
 | k+1,x1,x2,x3,x4,x12,x13,Xu,qhq,qcA=>if 0≤x2 then (if x2<(qcA.length:Int) then (if 0≤x1 then (if x1<((Qq qcA x2).length:Int) then (if x13<((QM (Qq qcA x2) x1).length:Int) then (if x1<(qhq.length:Int) then ((Gn.f (wrap64 (x3*(rd qhq x1))) 100).bind fun qg9=>((Ji.f x4 x13).bind fun qe9=>((Y6.f qe9 20).bind fun qcL=>(if x12.length<17592186044416 then (QF.l0 k x1 x2 x3 x4 (x12++[mx 0 (wrap64 (qg9-qcL))]) (wrap64 (x13+1)) Xu qhq qcA) else (none))))) else (none)) else (if x1<(Xu.length:Int) then ((Qw.f k ((Qc Xu x1).f0) ((Qc Xu x1).f1) ((Qc Xu x1).f2) ((Qc Xu x1).f3) ((Qc Xu x1).f4) x12 (QM (Qq qcA x2) x1)).bind fun qhN=>(some (qhN.1,qhN.2))) else (none))) else (none)) else (none)) else (none)) else (none)
def QF.f (k:Nat) (Qa:List (S39)) (Qe:List Int) (Qb:List (List (List Int))) (a1:Int) (a2:Int) (a3:Int) (l4:List Int):Option (List Int × Int):=QF.l0 k a1 a2 a3 l4 ([]:List Int) 0 Qa Qe Qb
def QF.T6:Bool × List (List Nat × List Nat):=(true,[([],[]),([0],[0]),([],[]),([1,2],[1,2]),([3],[3]),([],[]),([],[]),([6],[6]),([],[]),([7,8],[7,8]),([9],[9]),([],[]),([10,11],[10,11]),([12],[12]),([4,5,13],[4,5,13]),([14],[14]),([14],[14]),([15,14,0,1,2,3,4,5,6,7,8,9,10,11,12,13,14,15,16],[15]),([16,17,0,1,2,3,4,5,6,7,8,9,10,11,12,13,14,15,16,17],[16])])
def QF.B6:List Nat:=[0,1,0,7,15,0,0,64,0,448,960,0,4032,8128,16383,32767,32767,131071,262143]
theorem QF.tab6:rtab .any (qex Try.f52 6)=QF.T6:=by kernel_rfl
theorem QF.bits6:OA QF.T6.2 QF.B6=true:=by kernel_rfl
set_option maxHeartbeats 8000000 in
set_option maxRecDepth 100000 in
theorem QF.calls (k:Nat) (QC:Option Addr) (Qs:Nat) (Qa:List (S39)) (QA:Option Addr) (Qt:Nat) (Qe:List Int) (QE:Option Addr) (Qu:Nat) (Qb:List (List (List Int))) (a1:Int) (a2:Int) (a3:Int) (A4:Option Addr) (c4:Nat) (l4:List Int) (r1:List Int) (r2:Int) (w:World) (JV:Kd.C k39 w QC Qa.length Qa) (G7:Qa.length≤Qs) (JW:Kd.C (Kd.int .i64) w QA Qe.length Qe) (G8:Qe.length≤Qt) (JX:Kd.C (Kd.slice 37 (Kd.slice 3 (Kd.int .i64))) w QE Qb.length Qb) (G9:Qb.length≤Qu) (hr4:Kd.C (Kd.int .i64) w A4 l4.length l4) (hc4:l4.length≤c4) (h:QF.f k Qa Qe Qb a1 a2 a3 l4=some (r1,r2)) :
  Calls Try.prog 52 #[.agg #[.slice QC Qa.length Qs,.slice QA Qe.length Qt,.slice QE Qb.length Qu],.int .i64 a1,.int .i64 a2,.int .i64 a3,.slice A4 l4.length c4] w fun e w' => ∃ v0_:Value,e = .returned (.tuple #[v0_,.int .i64 r2])∧Kd.V (Kd.int .i64) 3 w' w.heap.size (fun k_=>(w.heap.size≤k_)) v0_ r1∧Below w.heap.size w w':=by
 have qmS:=Try.underlying47
 have qjH:=Try.underlying39
 have Z5:=Q0.mk JV
 have ZD:=Q0.mk G7
 clear JV G7
 have Zj:=Q0.mk JW
 have ZE:=Q0.mk G8
 clear JW G8
 have Z6:=Q0.mk JX
 have ZF:=Q0.mk G9
 clear JX G9
 have HR4:=Q0.mk hr4
 have HC4:=Q0.mk hc4
 clear hr4 hc4
 have HB:=Q0.mk (Below.refl w.heap.size w)
 have H:(QF.l0 k a1 a2 a3 l4 ([]:List Int) 0 Qa Qe Qb)=some (r1,r2):=h
 clear h
 have H':=Q0.mk H
 clear H
 go_enter Try.func52,Try.ntmps52
 go_wp2_with (first|((with_reducible refine QZ (N:=5) rfl ?_);refine Yp ?hg (N:=5) ?hd (cs:=#[.slice QC Qa.length Qs,.slice QA Qe.length Qt,.slice QE Qb.length Qu]) (t:=47) ?hr ?_;(case hd=>rfl);(case hg=>rfl);(case hr=>first|(go_simp;done)|(go_simp;rfl));intro Uo hg w6 hbox hb;have n0_:=Q0.mk (Qk (by repeat (first|(with_reducible first|exact HB.out|apply Q3|apply Q1|apply Q6)|exact HB.out)) hb);have n1_:=Q0.mk (hbox);have n2_:=Q0.mk ((by rw [hg];exact (Qi (by repeat (first|(with_reducible first|exact HB.out|apply Q3|apply Q1|apply Q6)|exact HB.out))):w.heap.size≤Uo));have n3_:=n2_;clear HB;have HB:=n0_;have Gb:=n1_;have qGr:=n2_;have qaD:=n3_;clear n0_ n1_ n2_ n3_ hb hbox hg))
 go_loopg [12,13] k (fun kq v12 v13 w' => ∃ (Uk:List Int) (UJ:Int),v13 = .int .i64 UJ∧Q0 (QF.l0 kq a1 a2 a3 l4 Uk UJ Qa Qe Qb=some (r1,r2))∧Q0 (kq≤k)∧Q0 (Kd.R (Kd.int .i64) 3 w' w.heap.size (fun k_=>(w.heap.size≤k_)) v12 Uk)∧Q0 (w'.heap[Uo]? = some (.cells #[(.slice QC Qa.length Qs),(.slice QA Qe.length Qt),(.slice QE Qb.length Qu)] 47 (0,0)))∧Q0 (Below w.heap.size w w'))
 case atStart=>exact ⟨(([]:List Int)),(0),(by first|rfl|(simp;done)|(simp [*];done)),H',⟨Nat.le_refl _⟩,⟨by first|exact Kd.R_nil _ _ _ _ _|exact Kd.N_nil _ _ _ _ _|exact Kd.V_nil _ _ _ _ _|exact Kd.Q_nil _ _ _ _ _|exact Kd.S_nil _ _ _ _ _⟩,⟨by (with_reducible repeat (first|refine Q4 ?_ _|refine Q7 ?_|refine Q2 ?_ _));exact Gb.out⟩,⟨by repeat (first|(with_reducible first|exact HB.out|apply Q3|apply Q1|apply Q6|refine Q5 ?_ qaD.out)|exact HB.out)⟩⟩
 case round =>
  clear H'
  try clear p2
  try clear c4
  try clear c5
  obtain ⟨Uk,UJ,rfl,HA,HK1,HO_12,Gb,HB⟩:=hrel
  cases gk with
  | zero=>exact absurd HA.out (by simp [QF.l0])
  | succ k1 =>
   have H:=HA.out
   clear HA
   simp only [QF.l0] at H
   by_cases c7:0≤a2
   ·
    rw [if_pos c7] at H;have c7b0:decide (0≤a2)=true:=decide_eq_true c7;clear c7
    by_cases c8:a2<(Qb.length:Int)
    ·
     rw [if_pos c8] at H;have c8b0:decide (a2<(Qb.length:Int))=true:=decide_eq_true c8;clear c8
     by_cases c9:0≤a1
     ·
      rw [if_pos c9] at H;have c9b0:decide (0≤a1)=true:=decide_eq_true c9;clear c9
      by_cases c10:a1<((Qq Qb a2).length:Int)
      ·
       rw [if_pos c10] at H;have c10b0:decide (a1<((Qq Qb a2).length:Int))=true:=decide_eq_true c10;clear c10
       by_cases c11:UJ<((QM (Qq Qb a2) a1).length:Int)
       ·
        rw [if_pos c11] at H;have c11b0:decide (UJ<((QM (Qq Qb a2) a1).length:Int))=true:=decide_eq_true c11;clear c11
        by_cases c12:a1<(Qe.length:Int)
        ·
         rw [if_pos c12] at H;have c12b0:decide (a1<(Qe.length:Int))=true:=decide_eq_true c12;clear c12;replace H:=Option.bind_eq_some_iff.mp H;obtain ⟨qg9,quY,H⟩:=H;replace H:((Ji.f l4 UJ).bind fun qe9=>((Y6.f qe9 20).bind fun qcL=>(if Uk.length<17592186044416 then (QF.l0 k1 a1 a2 a3 l4 (Uk++[mx 0 (wrap64 (qg9-qcL))]) (wrap64 (UJ+1)) Qa Qe Qb) else (none))))=some (r1,r2):=H;have A13:=Q0.mk quY;clear quY;replace H:=Option.bind_eq_some_iff.mp H;obtain ⟨qe9,quZ,H⟩:=H;replace H:((Y6.f qe9 20).bind fun qcL=>(if Uk.length<17592186044416 then (QF.l0 k1 a1 a2 a3 l4 (Uk++[mx 0 (wrap64 (qg9-qcL))]) (wrap64 (UJ+1)) Qa Qe Qb) else (none)))=some (r1,r2):=H;have A14:=Q0.mk quZ;clear quZ;replace H:=Option.bind_eq_some_iff.mp H;obtain ⟨qcL,qnx,H⟩:=H;replace H:(if Uk.length<17592186044416 then (QF.l0 k1 a1 a2 a3 l4 (Uk++[mx 0 (wrap64 (qg9-qcL))]) (wrap64 (UJ+1)) Qa Qe Qb) else (none))=some (r1,r2):=H;have A15:=Q0.mk qnx;clear qnx;obtain ⟨qjL,qev⟩:∃ j_:Int,(mx 0 (wrap64 (qg9-qcL)))=j_:=⟨_,rfl⟩
         replace H:(if Uk.length<17592186044416 then (QF.l0 k1 a1 a2 a3 l4 (Uk++[qjL]) (wrap64 (UJ+1)) Qa Qe Qb) else (none))=some (r1,r2):=by first|(rw [qev] at H;exact H)|(simp only [qev] at H ⊢;exact H)
         (try rw [qev] at A13)
         (try rw [qev] at A14)
         (try rw [qev] at A15)
         (try (have hji16l:0≤qjL:=by (rw [← qev];unfold mx;(repeat' split)<;>omega)))
         (try (have hji16m:0≤qjL:=by omega))
         have hji16_:(if 0<(wrap64 (qg9-qcL)) then (wrap64 (qg9-qcL)) else 0)=qjL:=qev
         by_cases c17:Uk.length<17592186044416
         ·
          rw [if_pos c17] at H;have qvJ:=Q0.mk c17;clear c17;obtain ⟨qyi,qiq⟩:∃ y_:List Int,y_=(Uk++[qjL]):=⟨_,rfl⟩
          replace H:(QF.l0 k1 a1 a2 a3 l4 qyi (wrap64 (UJ+1)) Qa Qe Qb)=some (r1,r2):=by first|(rw [qiq];with_reducible exact H)|(have H2_:=(Option.bind_some _ _).symm.trans H;rw [qiq];with_reducible exact H2_)|(have H2_:=(Option.bind_some _ _).symm.trans H;with_reducible exact H2_)|with_reducible exact H|(rw [qiq];exact H)|exact H
          have qvM:=Q0.mk qiq;clear qiq;have H':=Q0.mk H;clear H;have Gw:wr.cell? ⟨Uo,0,none⟩=some (.slice QC Qa.length Qs):=(Q8 Gb.out 0).trans rfl;have Gx:wr.cell? ⟨Uo,1,none⟩=some (.slice QA Qe.length Qt):=(Q8 Gb.out 1).trans rfl;have Gy:wr.cell? ⟨Uo,2,none⟩=some (.slice QE Qb.length Qu):=(Q8 Gb.out 2).trans rfl;have GC:=Q9 Gb.out 0;have GD:=Q9 Gb.out 1;have GE:=Q9 Gb.out 2;have qj4:0≤(a2:Int):=of_decide_eq_true (by first|(with_reducible assumption)|assumption);have qkm:a2<(Qb.length:Int):=of_decide_eq_true (by first|(with_reducible assumption)|assumption);obtain ⟨qel,qs6,qtw,qtP,Xg,qb3,qbP⟩:=XB Z6.out a2 qj4 qkm;cases qtP;replace Xg:=(HB.out.cell (World.block_lt_of_cell? w _ Xg)).trans Xg;have qfG:=Q0.mk qbP;have qpx:=Q0.mk qb3;clear qbP qb3;replace qj4:=eq_true qj4;replace qkm:=eq_true qkm;have qj5:0≤(a1:Int):=of_decide_eq_true (by first|(with_reducible assumption)|assumption);have qkn:a1<((Qq Qb a2).length:Int):=of_decide_eq_true (by first|(with_reducible assumption)|assumption);obtain ⟨qv3,qs7,qtx,qtQ,Xh,qb4,qbQ⟩:=XA qfG.out a1 qj5 qkn;cases qtQ;replace Xh:=(HB.out.cell (World.block_lt_of_cell? w _ Xh)).trans Xh;have qpL:=Q0.mk qbQ;have qpy:=Q0.mk qb4;clear qbQ qb4;replace qj5:=eq_true qj5;replace qkn:=eq_true qkn;have qun:0≤(a1:Int):=of_decide_eq_true (by first|(with_reducible assumption)|assumption);have quC:a1<(Qe.length:Int):=of_decide_eq_true (by first|(with_reducible assumption)|assumption);obtain ⟨qv4,qE1,qgI⟩:=Kd.at_int Zj.out a1 qun quC;cases qE1;replace qgI:=(HB.out.cell (World.block_lt_of_cell? w _ qgI)).trans qgI;replace qun:=eq_true qun;replace quC:=eq_true quC
          go_wp2_with (first|((with_reducible refine QD (f:=48) rfl ?_);refine YC (some 35) rfl rfl Try.func48 (by kernel_rfl) rfl #[.int .i64 (wrap64 (a3*(rd Qe a1))),.int .i64 100] rfl (by (try simp only [List.map_toArray,List.map_cons,List.map_nil]);first|done|rfl|(simp only [List.length_drop,List.length_take];rfl)) ?_;(with_reducible refine (Gn.calls (wrap64 (a3*(rd Qe a1))) 100 qg9 _ A13.out).mono ?_);rintro e w' ⟨rfl,⟨nd,rfl⟩⟩;refine ⟨_,rfl,?_⟩)|((with_reducible refine QD (f:=42) rfl ?_);refine YC (some 38) rfl rfl Try.func42 (by kernel_rfl) rfl #[.slice A4 l4.length c4,.int .i64 UJ] rfl (by (try simp only [List.map_toArray,List.map_cons,List.map_nil]);first|done|rfl|(simp only [List.length_drop,List.length_take];rfl)) ?_;(with_reducible refine (Ji.calls _ _ l4 UJ qe9 _ ?side1 ?side2 A14.out).mono ?_);(case side1=>repeat (first|exact (Kd.C_below HR4.out (by repeat (first|(with_reducible first|exact HB.out|apply Q3|apply Q1|apply Q6|refine Q5 ?_ qaD.out)|exact HB.out)))|(with_reducible refine Kd.C_alloc ?_ _)|(with_reducible refine Kd.C_drewN ?_ _)|(with_reducible refine Kd.C_drew ?_)));(case side2=>exact HC4.out);rintro e w' ⟨rfl,⟨nd,rfl⟩⟩;refine ⟨_,rfl,?_⟩)|((with_reducible refine QD (f:=36) rfl ?_);refine YC (some 39) rfl rfl Try.func36 (by kernel_rfl) rfl #[.int .i64 qe9,.int .i64 20] rfl (by (try simp only [List.map_toArray,List.map_cons,List.map_nil]);first|done|rfl|(simp only [List.length_drop,List.length_take];rfl)) ?_;(with_reducible refine (Y6.calls qe9 20 qcL _ A15.out).mono ?_);rintro e w' ⟨rfl,⟨nd,rfl⟩⟩;refine ⟨_,rfl,?_⟩)|((with_reducible refine qfP (b:=.append) (xs:=#[.tmp 27,.tmp 42]) rfl ?_);at_builtin;refine Kd.R_append (Kd.int .i64) (w0:=w) w.heap.size rfl (.tmp 27) (.tmp 42) 37 3 (.int .i64 0) 8 rfl Try.underlying37 qcl rfl (by decide) (by omega) u12 Uk qjL [.int .i64 qjL] (fun k_=>(w.heap.size≤k_)) (fun _=>False) rfl rfl ?aP (fun _ hk=>hk.elim) ?aF ?aO ?aB ?aS ?aL ?_;(case aP=>exact rfl);(case aB=>exact (by repeat (first|(with_reducible first|exact HB.out|apply Q3|apply Q1|apply Q6|refine Q5 ?_ qaD.out)|exact HB.out)));(case aF=>exact (fun k_ hk=>(Nat.le_trans (Qi (by repeat (first|(with_reducible first|exact HB.out|apply Q3|apply Q1|apply Q6|refine Q5 ?_ qaD.out)|exact HB.out))) hk)));(case aO=>exact (by (with_reducible repeat (first|apply Kd.R_alloc|apply Kd.R_drewN|apply Kd.R_drew));exact HO_12.out));(case aS=>exact (Qi (by repeat (first|(with_reducible first|exact HB.out|apply Q3|apply Q1|apply Q6|refine Q5 ?_ qaD.out)|exact HB.out))));(case aL=>have:=qvJ.out;omega);intro qJ7 w19 ho hb hg hat;rw [← qvM.out] at ho;have n0_:=Q0.mk (Gg (g:=Uo) (by (with_reducible repeat (first|refine Q4 ?_ _|refine Q7 ?_|refine Q2 ?_ _));exact Gb.out) hg (Kd.R_ne HO_12.out Gb.out (by decide)));have n1_:=Q0.mk (hb);have n2_:=Q0.mk (ho);clear Gb HB HO_12;have Gb:=n0_;have HB:=n1_;have qvG:=n2_;clear n0_ n1_ n2_ ho hb hg hat))
          go_roundg k1
          case measure=>have:=HK1.out;omega
          case rel=>exact ⟨(qyi),(wrap64 (UJ+1)),(by first|rfl|(simp;done)|(simp [*];done)),H',⟨by have:=HK1.out;omega⟩,⟨by (with_reducible repeat (first|apply Kd.R_alloc|apply Kd.R_drewN|apply Kd.R_drew));exact qvG.out⟩,⟨by (with_reducible repeat (first|refine Q4 ?_ _|refine Q7 ?_|refine Q2 ?_ _));exact Gb.out⟩,⟨by repeat (first|(with_reducible first|exact HB.out|apply Q3|apply Q1|apply Q6|refine Q5 ?_ qaD.out)|exact HB.out)⟩⟩
         rw [if_neg c17] at H
         exact absurd H (by simp)
        rw [if_neg c12] at H
        exact absurd H (by simp)
       rw [if_neg c11] at H;have c11b0:decide (UJ<((QM (Qq Qb a2) a1).length:Int))=false:=decide_eq_false c11;clear c11
       by_cases c20:a1<(Qa.length:Int)
       ·
        rw [if_pos c20] at H;have c20b0:decide (a1<(Qa.length:Int))=true:=decide_eq_true c20;clear c20;replace H:=Option.bind_eq_some_iff.mp H;obtain ⟨⟨qye,qyf⟩,qhv,H⟩:=H;replace H:(some (qye,qyf))=some (r1,r2):=H;have A21:=Q0.mk qhv;clear qhv;simp only [Option.some.injEq,Prod.mk.injEq] at H;obtain ⟨rfl,rfl⟩:=H;have WS:wr.cell? ⟨Uo,0,none⟩=some (.slice QC Qa.length Qs):=(Q8 Gb.out 0).trans rfl;have WT:wr.cell? ⟨Uo,1,none⟩=some (.slice QA Qe.length Qt):=(Q8 Gb.out 1).trans rfl;have WU:wr.cell? ⟨Uo,2,none⟩=some (.slice QE Qb.length Qu):=(Q8 Gb.out 2).trans rfl;have X0:=Q9 Gb.out 0;have X1:=Q9 Gb.out 1;have X2:=Q9 Gb.out 2;have qj4:0≤(a2:Int):=of_decide_eq_true (by first|(with_reducible assumption)|assumption);have qkm:a2<(Qb.length:Int):=of_decide_eq_true (by first|(with_reducible assumption)|assumption);obtain ⟨qel,qs6,qtw,qtP,Xg,qb3,qbP⟩:=XB Z6.out a2 qj4 qkm;cases qtP;replace Xg:=(HB.out.cell (World.block_lt_of_cell? w _ Xg)).trans Xg;have qfG:=Q0.mk qbP;have qpx:=Q0.mk qb3;clear qbP qb3;replace qj4:=eq_true qj4;replace qkm:=eq_true qkm;have qj5:0≤(a1:Int):=of_decide_eq_true (by first|(with_reducible assumption)|assumption);have qkn:a1<((Qq Qb a2).length:Int):=of_decide_eq_true (by first|(with_reducible assumption)|assumption);obtain ⟨qv3,qs7,qtx,qtQ,Xh,qb4,qbQ⟩:=XA qfG.out a1 qj5 qkn;cases qtQ;replace Xh:=(HB.out.cell (World.block_lt_of_cell? w _ Xh)).trans Xh;have qpL:=Q0.mk qbQ;have qpy:=Q0.mk qb4;clear qbQ qb4;replace qj5:=eq_true qj5;replace qkn:=eq_true qkn
        try go_wp2
        have n0_:=Q0.mk (Kd.R_drew HO_12.out);have n1_:=Q0.mk (Q7 Gb.out);have n2_:=Q0.mk (Q6 HB.out);clear HO_12 Gb HB;have HO_12:=n0_;have Gb:=n1_;have HB:=n2_;clear n0_ n1_ n2_;have qup:0≤(a1:Int):=of_decide_eq_true (by first|(with_reducible assumption)|assumption);have quD:a1<(Qa.length:Int):=of_decide_eq_true (by first|(with_reducible assumption)|assumption);obtain ⟨Xz,qnC,qn5,qnD,qn6,qnE,qn7,qE2,qcc,qcd,qce,qcf,qcg,ql2,qlH,ql3,qlI,ql4,qlJ⟩:=XI Z5.out a1 qup quD;have qdU:=qcg;have qdT:=qcf;have qdS:=qce;have qdR:=qcd;have qdQ:=qcc;cases qE2;replace qcc:=(HB.out.cell (World.block_lt_of_cell? w _ qcc)).trans qcc;replace qcd:=(HB.out.cell (World.block_lt_of_cell? w _ qcd)).trans qcd;replace qce:=(HB.out.cell (World.block_lt_of_cell? w _ qce)).trans qce;replace qcf:=(HB.out.cell (World.block_lt_of_cell? w _ qcf)).trans qcf;replace qcg:=(HB.out.cell (World.block_lt_of_cell? w _ qcg)).trans qcg;have qk1:=Q0.mk qlH;have qpz:=Q0.mk ql2;clear qlH ql2;have qk2:=Q0.mk qlI;have qpA:=Q0.mk ql3;clear qlI ql3;have qk3:=Q0.mk qlJ;have qpB:=Q0.mk ql4;clear qlJ ql4;replace qup:=eq_true qup;replace quD:=eq_true quD;have quq:0≤(a2:Int):=of_decide_eq_true (by first|(with_reducible assumption)|assumption);have quE:a2<(Qb.length:Int):=of_decide_eq_true (by first|(with_reducible assumption)|assumption);obtain ⟨qv5,qEu,qty,qE3,qch,ql5,qlK⟩:=XB Z6.out a2 quq quE;have qdV:=qch;obtain rfl:qel=qv5:=(by injection qE3);replace qch:=(HB.out.cell (World.block_lt_of_cell? w _ qch)).trans qch;have qk4:=Q0.mk qlK;have qyu:=Q0.mk ql5;clear qlK ql5;replace quq:=eq_true quq;replace quE:=eq_true quE;have qur:0≤(a1:Int):=of_decide_eq_true (by first|(with_reducible assumption)|assumption);have quF:a1<((Qq Qb a2).length:Int):=of_decide_eq_true (by first|(with_reducible assumption)|assumption);obtain ⟨qsL,qnF,qn8,qE4,qci,ql6,qlL⟩:=XA qk4.out a1 qur quF;have qdW:=qci;cases qE4;replace qci:=(HB.out.cell (World.block_lt_of_cell? w _ qci)).trans qci;have qk5:=Q0.mk qlL;have qpC:=Q0.mk ql6;clear qlL ql6;replace qur:=eq_true qur;replace quF:=eq_true quF;obtain ⟨qvo,qwe,qwj⟩:=Kd.R_slice HO_12.out
        (first|subst qwj|(injection qwj with f1_ f2_ f3_;have f4_:=f1_.symm;have f5_:=f3_.symm;clear f1_ f2_ f3_;subst f4_;subst f5_))
        refine Xp (n:=19) (S:=fun w'=>w'.cell? ⟨Uo,0,none⟩=some (.slice (some Xz) Qa.length Qs)∧w'.cell? ⟨Uo,1,none⟩=some (.slice QA Qe.length Qt)∧w'.cell? ⟨Uo,2,none⟩=some (.slice (some qel) Qb.length Qu)∧w'.cell? (Xz.add ((a1).toNat*5))=some (.slice qnC ((Qc Qa a1).f0).length qn5)∧w'.cell? ⟨(Xz.add ((a1).toNat*5)).block,(Xz.add ((a1).toNat*5)).off+1,none⟩=some (.slice qnD ((Qc Qa a1).f1).length qn6)∧w'.cell? ⟨(Xz.add ((a1).toNat*5)).block,(Xz.add ((a1).toNat*5)).off+2,none⟩=some (.slice qnE ((Qc Qa a1).f2).length qn7)∧w'.cell? ⟨(Xz.add ((a1).toNat*5)).block,(Xz.add ((a1).toNat*5)).off+3,none⟩=some (.int .i64 ((Qc Qa a1).f3))∧w'.cell? ⟨(Xz.add ((a1).toNat*5)).block,(Xz.add ((a1).toNat*5)).off+4,none⟩=some (.int .i64 ((Qc Qa a1).f4))∧w'.cell? (qel.add (a2).toNat)=some (.slice (some qsL) (Qq Qb a2).length qty)∧w'.cell? (qsL.add (a1).toNat)=some (.slice qnF (QM (Qq Qb a2) a1).length qn8)) (ds:=[]) #[false,false,false,false,false,false,false,false,false,false,false,false,false,false,false,false,false,false,false] (by kernel_rfl) rfl rfl ⟨(Q8 Gb.out 0).trans rfl,(Q8 Gb.out 1).trans rfl,(Q8 Gb.out 2).trans rfl,((HB.out.cell (World.block_lt_of_cell? w _ qdQ)).trans qdQ),((HB.out.cell (World.block_lt_of_cell? w _ qdR)).trans qdR),((HB.out.cell (World.block_lt_of_cell? w _ qdS)).trans qdS),((HB.out.cell (World.block_lt_of_cell? w _ qdT)).trans qdT),((HB.out.cell (World.block_lt_of_cell? w _ qdU)).trans qdU),((HB.out.cell (World.block_lt_of_cell? w _ qdV)).trans qdV),((HB.out.cell (World.block_lt_of_cell? w _ qdW)).trans qdW)⟩ (fun hHeld => ?_);refine Oc QF.tab6 QF.bits6 (fun HT_ HW_ => ?_)
        generalize wr.drew=w23 at HO_12 Gb HB qk1 qk2 qk3 qk4 qk5 qcc qcd qce qcf qcg qch qci hHeld ⊢
        refine Yr (i:=0) (N:=some 44) (v:=?_) (a':=?_) #[true,false,false,false,false,false,false,false,false,false,false,false,false,false,false,false,false,false,false] rfl rfl (Ya HT_.out (by kernel_rfl)) (fun _ _ _ h=>h) (Or.inl ⟨by rfl,?_⟩) ?_ ?_
        rotate_left
        ·
         intro w'
         go_simp
         with_reducible rfl
        rotate_left
        ·
         simp only [Act.put,List.setIfInBounds_toArray,List.set_cons_zero,List.set_cons_succ,QK,QP]
         rfl
        refine Yr (i:=2) (N:=some 46) (v:=?_) (a':=?_) #[true,false,true,false,false,false,false,false,false,false,false,false,false,false,false,false,false,false,false] rfl rfl (Ya HT_.out (by kernel_rfl)) (fun _ _ _ h=>h) (Or.inl ⟨by rfl,?_⟩) ?_ ?_
        rotate_left
        ·
         intro w'
         go_simp
         with_reducible rfl
        rotate_left
        ·
         simp only [Act.put,List.setIfInBounds_toArray,List.set_cons_zero,List.set_cons_succ,QK,QP]
         rfl
        refine Yr (i:=5) (N:=some 49) (v:=?_) (a':=?_) #[true,false,true,false,false,true,false,false,false,false,false,false,false,false,false,false,false,false,false] rfl rfl (Ya HT_.out (by kernel_rfl)) (fun _ _ _ h=>h) (Or.inl ⟨by rfl,?_⟩) ?_ ?_
        rotate_left
        ·
         intro w'
         go_simp
         with_reducible rfl
        rotate_left
        ·
         simp only [Act.put,List.setIfInBounds_toArray,List.set_cons_zero,List.set_cons_succ,QK,QP]
         rfl
        refine Yr (i:=6) (N:=some 50) (v:=?_) (a':=?_) #[true,false,true,false,false,true,true,false,false,false,false,false,false,false,false,false,false,false,false] rfl rfl (Ya HT_.out (by kernel_rfl)) (fun _ _ _ h=>h) (Or.inl ⟨by rfl,?_⟩) ?_ ?_
        rotate_left
        ·
         intro w'
         go_simp
         with_reducible rfl
        rotate_left
        ·
         simp only [Act.put,List.setIfInBounds_toArray,List.set_cons_zero,List.set_cons_succ,QK,QP]
         rfl
        refine Yr (i:=8) (N:=some 52) (v:=?_) (a':=?_) #[true,false,true,false,false,true,true,false,true,false,false,false,false,false,false,false,false,false,false] rfl rfl (Ya HT_.out (by kernel_rfl)) (fun _ _ _ h=>h) (Or.inl ⟨by rfl,?_⟩) ?_ ?_
        rotate_left
        ·
         intro w'
         go_simp
         with_reducible rfl
        rotate_left
        ·
         simp only [Act.put,List.setIfInBounds_toArray,List.set_cons_zero,List.set_cons_succ,QK,QP]
         rfl
        refine Yr (i:=11) (N:=some 55) (v:=?_) (a':=?_) #[true,false,true,false,false,true,true,false,true,false,false,true,false,false,false,false,false,false,false] rfl rfl (Ya HT_.out (by kernel_rfl)) (fun _ _ _ h=>h) (Or.inl ⟨by rfl,?_⟩) ?_ ?_
        rotate_left
        ·
         intro w'
         go_simp
         with_reducible rfl
        rotate_left
        ·
         simp only [Act.put,List.setIfInBounds_toArray,List.set_cons_zero,List.set_cons_succ,QK,QP]
         rfl
        refine JZ (i:=1) (N:=some 45) (v:=?_) (a':=?_) #[true,true,true,false,false,true,true,false,true,false,false,true,false,false,false,false,false,false,false] rfl rfl (Z9 HT_.out HW_.out (by kernel_rfl)) (fun _ _ _ h=>h) (Or.inl ⟨by rfl,?_⟩) hHeld ?_ ?_
        rotate_left
        ·
         rintro w' ⟨s0,s1,s2,s3,s4,s5,s6,s7,s8,s9⟩
         go_simp
         with_reducible rfl
        rotate_left
        ·
         simp only [Act.put,List.setIfInBounds_toArray,List.set_cons_zero,List.set_cons_succ,QK,QP]
         rfl
        refine Yr (i:=3) (N:=some 47) (v:=?_) (a':=?_) #[true,true,true,true,false,true,true,false,true,false,false,true,false,false,false,false,false,false,false] rfl rfl (Ya HT_.out (by kernel_rfl)) (fun _ _ _ h=>h) (Or.inl ⟨by rfl,?_⟩) ?_ ?_
        rotate_left
        ·
         intro w'
         go_simp
         with_reducible rfl
        rotate_left
        ·
         simp only [Act.put,List.setIfInBounds_toArray,List.set_cons_zero,List.set_cons_succ,QK,QP]
         rfl
        refine JZ (i:=4) (N:=some 48) (v:=?_) (a':=?_) #[true,true,true,true,true,true,true,false,true,false,false,true,false,false,false,false,false,false,false] rfl rfl (Z9 HT_.out HW_.out (by kernel_rfl)) (fun _ _ _ h=>h) (Or.inl ⟨by rfl,?_⟩) hHeld ?_ ?_
        rotate_left
        ·
         rintro w' ⟨s0,s1,s2,s3,s4,s5,s6,s7,s8,s9⟩
         go_simp
         with_reducible rfl
        rotate_left
        ·
         simp only [Act.put,List.setIfInBounds_toArray,List.set_cons_zero,List.set_cons_succ,QK,QP]
         rfl
        refine JZ (i:=7) (N:=some 51) (v:=?_) (a':=?_) #[true,true,true,true,true,true,true,true,true,false,false,true,false,false,false,false,false,false,false] rfl rfl (Z9 HT_.out HW_.out (by kernel_rfl)) (fun _ _ _ h=>h) (Or.inl ⟨by rfl,?_⟩) hHeld ?_ ?_
        rotate_left
        ·
         rintro w' ⟨s0,s1,s2,s3,s4,s5,s6,s7,s8,s9⟩
         go_simp
         with_reducible rfl
        rotate_left
        ·
         simp only [Act.put,List.setIfInBounds_toArray,List.set_cons_zero,List.set_cons_succ,QK,QP]
         rfl
        refine Yr (i:=9) (N:=some 53) (v:=?_) (a':=?_) #[true,true,true,true,true,true,true,true,true,true,false,true,false,false,false,false,false,false,false] rfl rfl (Ya HT_.out (by kernel_rfl)) (fun _ _ _ h=>h) (Or.inl ⟨by rfl,?_⟩) ?_ ?_
        rotate_left
        ·
         intro w'
         go_simp
         with_reducible rfl
        rotate_left
        ·
         simp only [Act.put,List.setIfInBounds_toArray,List.set_cons_zero,List.set_cons_succ,QK,QP]
         rfl
        refine JZ (i:=10) (N:=some 54) (v:=?_) (a':=?_) #[true,true,true,true,true,true,true,true,true,true,true,true,false,false,false,false,false,false,false] rfl rfl (Z9 HT_.out HW_.out (by kernel_rfl)) (fun _ _ _ h=>h) (Or.inl ⟨by rfl,?_⟩) hHeld ?_ ?_
        rotate_left
        ·
         rintro w' ⟨s0,s1,s2,s3,s4,s5,s6,s7,s8,s9⟩
         go_simp
         with_reducible rfl
        rotate_left
        ·
         simp only [Act.put,List.setIfInBounds_toArray,List.set_cons_zero,List.set_cons_succ,QK,QP]
         rfl
        refine Yr (i:=12) (N:=some 56) (v:=?_) (a':=?_) #[true,true,true,true,true,true,true,true,true,true,true,true,true,false,false,false,false,false,false] rfl rfl (Ya HT_.out (by kernel_rfl)) (fun _ _ _ h=>h) (Or.inl ⟨by rfl,?_⟩) ?_ ?_
        rotate_left
        ·
         intro w'
         go_simp
         with_reducible rfl
        rotate_left
        ·
         simp only [Act.put,List.setIfInBounds_toArray,List.set_cons_zero,List.set_cons_succ,QK,QP]
         rfl
        refine JZ (i:=13) (N:=some 57) (v:=?_) (a':=?_) #[true,true,true,true,true,true,true,true,true,true,true,true,true,true,false,false,false,false,false] rfl rfl (Z9 HT_.out HW_.out (by kernel_rfl)) (fun _ _ _ h=>h) (Or.inl ⟨by rfl,?_⟩) hHeld ?_ ?_
        rotate_left
        ·
         rintro w' ⟨s0,s1,s2,s3,s4,s5,s6,s7,s8,s9⟩
         go_simp
         with_reducible rfl
        rotate_left
        ·
         simp only [Act.put,List.setIfInBounds_toArray,List.set_cons_zero,List.set_cons_succ,QK,QP]
         rfl
        refine one_ (i:=14) (N:=some 58) #[true,true,true,true,true,true,true,true,true,true,true,true,true,true,true,false,false,false,false] rfl rfl (O5 HT_.out (by kernel_rfl)) (by decide) (fun K hK => ?_);refine qaK Try.func25 (by kernel_rfl) rfl #[.agg #[.slice qnC ((Qc Qa a1).f0).length qn5,.slice qnD ((Qc Qa a1).f1).length qn6,.slice qnE ((Qc Qa a1).f2).length qn7,.int .i64 ((Qc Qa a1).f3),.int .i64 ((Qc Qa a1).f4)],.slice qvo Uk.length qwe,.slice qnF (QM (Qq Qb a2) a1).length qn8] (by rfl) rfl rfl (by (try simp only [List.map_toArray,List.map_cons,List.map_nil]);first|done|rfl|(simp only [List.length_drop,List.length_take];rfl)) ?_
        with_reducible refine (Qw.calls k1 _ _ ((Qc Qa a1).f0) _ _ ((Qc Qa a1).f1) _ _ ((Qc Qa a1).f2) ((Qc Qa a1).f3) ((Qc Qa a1).f4) _ _ Uk _ _ (QM (Qq Qb a2) a1) qye qyf _ ?side1 ?side2 ?side3 ?side4 ?side5 ?side6 ?side7 ?side8 ?side9 ?side10 A21.out).mono ?_
        (case side1=>repeat (first|exact (Kd.C_below qk1.out HB.out)|(with_reducible refine Kd.C_alloc ?_ _)|(with_reducible refine Kd.C_drewN ?_ _)|(with_reducible refine Kd.C_drew ?_)))
        (case side2=>exact qpz.out)
        (case side3=>repeat (first|exact (Kd.C_below qk2.out HB.out)|(with_reducible refine Kd.C_alloc ?_ _)|(with_reducible refine Kd.C_drewN ?_ _)|(with_reducible refine Kd.C_drew ?_)))
        (case side4=>exact qpA.out)
        (case side5=>repeat (first|exact (Kd.C_below qk3.out HB.out)|(with_reducible refine Kd.C_alloc ?_ _)|(with_reducible refine Kd.C_drewN ?_ _)|(with_reducible refine Kd.C_drew ?_)))
        (case side6=>exact qpB.out)
        (case side7=>repeat (first|exact (Kd.R_reads' HO_12.out).2.2|(with_reducible refine Kd.C_alloc ?_ _)|(with_reducible refine Kd.C_drewN ?_ _)|(with_reducible refine Kd.C_drew ?_)))
        (case side8=>exact (Kd.R_reads' HO_12.out).2.1)
        (case side9=>repeat (first|exact (Kd.C_below qk5.out HB.out)|(with_reducible refine Kd.C_alloc ?_ _)|(with_reducible refine Kd.C_drewN ?_ _)|(with_reducible refine Kd.C_drew ?_)))
        (case side10=>exact qpC.out)
        rintro e w25 ⟨qJ8,rfl,ho0,hb⟩;refine ⟨_,rfl,?_⟩;have n0_:=Q0.mk (Kd.R_below (by (with_reducible repeat (first|apply Kd.R_alloc|apply Kd.R_drewN|apply Kd.R_drew));exact HO_12.out) hb);have n1_:=Q0.mk (Kd.V_lower (Kd.V_mono (ok':=fun k_=>(w.heap.size≤k_)∧some k_≠(.slice qvo Uk.length qwe:Value).ownBlock∧k_≠Uo) ho0 (fun k_ hk_=>⟨(Nat.le_trans (Qi (by repeat (first|(with_reducible first|exact HB.out|apply Q3|apply Q1|apply Q6|refine Q5 ?_ qaD.out)|exact HB.out))) hk_),(Kd.fresh' (Kd.R_lt (by (with_reducible repeat (first|apply Kd.R_alloc|apply Kd.R_drewN|apply Kd.R_drew));exact HO_12.out)) k_ hk_),(Kd.freshB (g:=Uo) (by (with_reducible repeat (first|refine Q4 ?_ _|refine Q7 ?_|refine Q2 ?_ _));exact Gb.out) k_ hk_)⟩)) (Qi (by repeat (first|(with_reducible first|exact HB.out|apply Q3|apply Q1|apply Q6|refine Q5 ?_ qaD.out)|exact HB.out))));have n2_:=Q0.mk (Qf (g:=Uo) (by (with_reducible repeat (first|refine Q4 ?_ _|refine Q7 ?_|refine Q2 ?_ _));exact Gb.out) hb);have n3_:=Q0.mk (Qk (by repeat (first|(with_reducible first|exact HB.out|apply Q3|apply Q1|apply Q6|refine Q5 ?_ qaD.out)|exact HB.out)) hb);clear HO_12 Gb HB;have HO_12:=n0_;have qvH:=n1_;have Gb:=n2_;have HB:=n3_;clear n0_ n1_ n2_ n3_
        (try clear hb)
        (try clear hb2)
        (try clear hk)
        (try clear hi)
        (try clear ho0)
        refine hK.out _ _ ⟨(Q8 Gb.out 0).trans rfl,(Q8 Gb.out 1).trans rfl,(Q8 Gb.out 2).trans rfl,((HB.out.cell (World.block_lt_of_cell? w _ qdQ)).trans qdQ),((HB.out.cell (World.block_lt_of_cell? w _ qdR)).trans qdR),((HB.out.cell (World.block_lt_of_cell? w _ qdS)).trans qdS),((HB.out.cell (World.block_lt_of_cell? w _ qdT)).trans qdT),((HB.out.cell (World.block_lt_of_cell? w _ qdU)).trans qdU),((HB.out.cell (World.block_lt_of_cell? w _ qdV)).trans qdV),((HB.out.cell (World.block_lt_of_cell? w _ qdW)).trans qdW)⟩ (fun hHeld => ?_);clear hK K;refine Kk (a':=?_) ?_ ?_
        rotate_left
        ·
         show Act.put _ (some 58) _=_
         simp only [Act.put,List.setIfInBounds_toArray,List.set_cons_zero,List.set_cons_succ,QK,QP]
         rfl
        refine Yr (i:=15) (N:=some 59) (v:=?_) (a':=?_) #[true,true,true,true,true,true,true,true,true,true,true,true,true,true,true,true,false,false,false] rfl rfl (Ya HT_.out (by kernel_rfl)) (fun _ _ _ h=>h) (Or.inl ⟨by rfl,?_⟩) ?_ ?_
        rotate_left
        ·
         intro w'
         go_simp
         with_reducible rfl
        rotate_left
        ·
         simp only [Act.put,List.setIfInBounds_toArray,List.set_cons_zero,List.set_cons_succ,QK,QP]
         rfl
        refine Yr (i:=16) (N:=some 60) (v:=?_) (a':=?_) #[true,true,true,true,true,true,true,true,true,true,true,true,true,true,true,true,true,false,false] rfl rfl (Ya HT_.out (by kernel_rfl)) (fun _ _ _ h=>h) (Or.inl ⟨by rfl,?_⟩) ?_ ?_
        rotate_left
        ·
         intro w'
         go_simp
         with_reducible rfl
        rotate_left
        ·
         simp only [Act.put,List.setIfInBounds_toArray,List.set_cons_zero,List.set_cons_succ,QK,QP]
         rfl
        refine Yr (i:=17) (N:=some 10) (v:=?_) (a':=?_) #[true,true,true,true,true,true,true,true,true,true,true,true,true,true,true,true,true,true,false] rfl rfl (Ya HT_.out (by kernel_rfl)) (fun _ _ _ h=>h) (Or.inl ⟨by rfl,?_⟩) ?_ ?_
        rotate_left
        ·
         intro w'
         go_simp
         with_reducible rfl
        rotate_left
        ·
         simp only [Act.put,List.setIfInBounds_toArray,List.set_cons_zero,List.set_cons_succ,QK,QP]
         rfl
        refine Yr (i:=18) (N:=some 11) (v:=?_) (a':=?_) #[true,true,true,true,true,true,true,true,true,true,true,true,true,true,true,true,true,true,true] rfl rfl (Ya HT_.out (by kernel_rfl)) (fun _ _ _ h=>h) (Or.inl ⟨by rfl,?_⟩) ?_ ?_
        rotate_left
        ·
         intro w'
         go_simp
         with_reducible rfl
        rotate_left
        ·
         simp only [Act.put,List.setIfInBounds_toArray,List.set_cons_zero,List.set_cons_succ,QK,QP]
         rfl
        refine qbm (UP HT_.out (by kernel_rfl)) ?_
        try go_wp2
        go_ret2
        exact ⟨_,by first|rfl|(simp [Qx,Qy]<;>rfl)|(simp [*,Qx,Qy]<;>rfl),by (with_reducible repeat (first|apply Kd.V_alloc|apply Kd.V_drewN|apply Kd.V_drew));exact Kd.V_mono qvH.out (fun _ hk=>hk.1),by repeat (first|(with_reducible first|exact HB.out|apply Q3|apply Q1|apply Q6|refine Q5 ?_ qaD.out)|exact HB.out)⟩
       rw [if_neg c20] at H
       exact absurd H (by simp)
      rw [if_neg c10] at H
      exact absurd H (by simp)
     rw [if_neg c9] at H
     exact absurd H (by simp)
    rw [if_neg c8] at H
    exact absurd H (by simp)
   rw [if_neg c7] at H
   exact absurd H (by simp)
end
end Go.Proofs.Ytmhomdohhihlcaa.P
namespace Go.Proofs.Ytmhomdohhihlcaa.P
open Go.RowKit Go.Maps Go.Proofs.YtmhomdohhihlcaaW.PrintWords Go.Proofs.YtmhomdohhihlcaaW.PrintLast Go.Proofs.YtmhomdohhihlcaaW.PrintMore
theorem qrv:laidOutB Try.prog=true:=by kernel_rfl
theorem XQ:Keyed Try.prog 139:=Keyed.of_law (deep_law_laid qrv (m:=2) (by omega) (of_decide_eq_true (by kernel_rfl)) (by kernel_rfl) (by rw [Try.underlying139]))
theorem qjM:Try.prog.keyType 139=true:=by kernel_rfl
theorem qhP:Try.prog.cellsOf 139=1:=by kernel_rfl
theorem qtC:Try.prog.cellsOf 3=1:=by kernel_rfl
theorem qky:∃ m,Try.prog.types.size=m+1:=⟨Try.prog.types.size-1,by
 have:0<Try.prog.types.size:=of_decide_eq_true (by kernel_rfl)
 omega⟩
theorem qgK {c:Int} (hc:(Lit.int .i64 c).wf=true):keyOf Try.prog 139 (.agg #[.int .i64 c])=some (.string (keyBytes [.int .i64 c])):=by
 obtain ⟨m,hm⟩:=qky
 have hkt:=qjM
 unfold keyOf
 simp only [Try.underlying139]
 rw [if_pos (by simp [hkt,Value.formed,Try.underlying139,qhP]),hm]
 unfold Program.keyLits
 simp only [Try.underlying139,Value.cells]
 rw [if_pos (by rw [qhP];exact ⟨rfl,by simp⟩)]
 simp [qtC,Program.keyLits,Try.underlying3,hc]
def Ye.l (x:Int):Nat→List Jk→Int→Int→Int × Int
 | _,[],a,b=>(a,b)
 | i,c::cs,a,b=>if (Go.bits .and .i64 (shr .i64 x (i:Int)) 1==1)=true then Ye.l x (i+1) cs (wrap64 (a+c.f0)) (wrap64 (b+c.f1)) else Ye.l x (i+1) cs a b
def Ye.s (cells:List Jk) (x:Int):Int × Int:=Ye.l x 0 cells 0 0
theorem qv8 (i:Nat):(Go.bits .and .i64 (shr .i64 0 (i:Int)) 1==1)=false:=by
 have:shr .i64 0 (i:Int)=0:=by simp [shr]
 rw [this]
 rfl
theorem qgT:∀ (cells:List Jk) (i:Nat) (a b:Int),Ye.l 0 i cells a b=(a,b)
 | [],_,_,_=>rfl
 | c::cs,i,a,b=>by rw [Ye.l,if_neg (by rw [qv8];decide)];exact qgT cs _ _ _
def MapI (W:World) (bm:Nat) (cells:List Jk):Prop :=
 ∃ (es:Array MapEntry) (clock:Nat),W.heap[bm]? = some (.map es clock) ∧ ∀ e∈es.toList,∃ c:Int,(Lit.int .i64 c).wf=true∧e.key = .agg #[.int .i64 c]∧e.val = .agg #[.int .i64 (Ye.s cells c).1,.int .i64 (Ye.s cells c).2]
theorem MapI.lt {W:World} {bm:Nat} {cells:List Jk} (h:MapI W bm cells):bm<W.heap.size:=by
 obtain ⟨es,clock,hb,_⟩:=h
 exact (Array.getElem?_eq_some_iff.1 hb).1
theorem MapI.keep {W W1:World} {bm:Nat} {cells:List Jk} (h:MapI W bm cells) (hk:W1.heap[bm]? = W.heap[bm]?):MapI W1 bm cells:=by
 obtain ⟨es,clock,hb,hs⟩:=h
 exact ⟨es,clock,hk.trans hb,hs⟩
theorem qr5 (w:World):(zeroValue 136).run Try.prog w = .ok (.agg #[.int .i64 0,.int .i64 0]) w:=by kernel_rfl
theorem qn0 {a b:Int} (h:(Value.agg #[.int .i64 a]) = .agg #[.int .i64 b]):a=b:=by
 injection h with h
 injection h with h
 injection h with h
 injection h
theorem MapI.look {W:World} {bm:Nat} {cells:List Jk} (h:MapI W bm cells) {x:Int} (hx:(Lit.int .i64 x).wf=true) :
  ∃ (b:Bool) (a1 a2:Int),((b=false∧a1=0∧a2=0)∨(b=true∧a1=(Ye.s cells x).1∧a2=(Ye.s cells x).2)) ∧
   ∀ W1:World,W1.heap[bm]? = W.heap[bm]? → (Instr.lookup 140 (.map (some bm)) (.agg #[.int .i64 x]) true).run Try.prog W1 = .ok (.tuple #[.agg #[.int .i64 a1,.int .i64 a2],.bool b]) W1:=by
 obtain ⟨es,clock,hb,hs⟩:=h
 have hkey:=qgK hx
 have hks:∀ e∈es.toList,∃ l,keyOf Try.prog 139 e.key=some l:=fun e he=>by
  obtain ⟨c,hc,hk,_⟩:=hs e he
  exact ⟨_,by rw [hk];exact qgK hc⟩
 by_cases hex:∃ e∈es.toList,e.key = .agg #[.int .i64 x]
 ·
  refine ⟨true,(Ye.s cells x).1,(Ye.s cells x).2,.inr ⟨rfl,rfl,rfl⟩,fun W1 hW => ?_⟩
  have hb1:=hW.trans hb
  rcases XQ.find W1 hkey es.toList hks with ⟨h1,h2⟩|⟨j,e0,h1,h2,h3⟩
  ·
   obtain ⟨e,he,hk⟩:=hex
   exact absurd hk (h2 e he)
  ·
   have hm0:e0∈es.toList:=List.mem_of_getElem? h2
   obtain ⟨c,hc,hk,hv⟩:=hs e0 hm0
   have hcx:c=x:=qn0 (hk.symm.trans h3)
   subst hcx
   simp [Instr.lookup,run_underlying Try.underlying140,MapKept.run_getObj_map hb1,XQ.check W1 _ hkey,h1,Result.andThen,hv]
 ·
  refine ⟨false,0,0,.inl ⟨rfl,rfl,rfl⟩,fun W1 hW => ?_⟩
  have hb1:=hW.trans hb
  rcases XQ.find W1 hkey es.toList hks with ⟨h1,h2⟩|⟨j,e0,h1,h2,h3⟩
  ·
   simp [Instr.lookup,run_underlying Try.underlying140,MapKept.run_getObj_map hb1,XQ.check W1 _ hkey,h1,Result.andThen,qr5]
  ·
   exact absurd ⟨e0,List.mem_of_getElem? h2,h3⟩ hex
theorem MapI.store {W:World} {bm:Nat} {cells:List Jk} (h:MapI W bm cells) {x:Int} (hx:(Lit.int .i64 x).wf=true) :
  ∃ W1,(Instr.mapUpdate 140 (.map (some bm)) (.agg #[.int .i64 x]) (.agg #[.int .i64 (Ye.s cells x).1,.int .i64 (Ye.s cells x).2])).run Try.prog W = .ok () W1∧MapI W1 bm cells∧W.grownBy W1 (some bm):=by
 obtain ⟨es,clock,hb,hs⟩:=h
 have hkey:=qgK hx
 have hks:∀ e∈es.toList,∃ l,keyOf Try.prog 139 e.key=some l:=fun e he=>by
  obtain ⟨c,hc,hk,_⟩:=hs e he
  exact ⟨_,by rw [hk];exact qgK hc⟩
 have hgr:∀ o,W.grownBy (ChangeMaps.setBlock W bm o) (some bm):=fun o=>⟨rfl,rfl,rfl,by simp [ChangeMaps.setBlock],fun i _ hi=>ChangeMaps.heap_setBlock_other hb _ (fun e=>hi (by rw [e]))⟩
 rcases XQ.find W hkey es.toList hks with ⟨h1,h2⟩|⟨j,e0,h1,h2,h3⟩
 ·
  refine ⟨ChangeMaps.setBlock W bm (.map (es.push ⟨.agg #[.int .i64 x],.agg #[.int .i64 (Ye.s cells x).1,.int .i64 (Ye.s cells x).2],clock⟩) (clock+1)),?_,⟨_,_,ChangeMaps.heap_setBlock_same hb _,fun e he => ?_⟩,hgr _⟩
  ·
   simp [Instr.mapUpdate,run_underlying Try.underlying140,MapKept.run_getObj_map hb,XQ.check W false hkey,h1,MapKept.run_setObj_map _ hb,Result.andThen,ChangeMaps.setBlock]
  ·
   simp only [Array.toList_push,List.mem_append,List.mem_singleton] at he
   rcases he with he|rfl
   ·
    exact hs e he
   ·
    exact ⟨x,hx,rfl,rfl⟩
 ·
  have hj:es[j]? = some e0:=by simpa using h2
  refine ⟨ChangeMaps.setBlock W bm (.map (es.modify j (fun e' => { e' with key:=.agg #[.int .i64 x],val:=.agg #[.int .i64 (Ye.s cells x).1,.int .i64 (Ye.s cells x).2] })) clock),?_,⟨_,_,ChangeMaps.heap_setBlock_same hb _,fun e he => ?_⟩,hgr _⟩
  ·
   simp [Instr.mapUpdate,run_underlying Try.underlying140,MapKept.run_getObj_map hb,XQ.check W false hkey,h1,hj,h3,XQ.stays W hkey,MapKept.run_setObj_map _ hb,Result.andThen,ChangeMaps.setBlock]
  ·
   rw [Array.toList_modify,ChangeMaps.modify_eq_set _ _ _ _ h2] at he
   rcases List.mem_or_eq_of_mem_set he with he|rfl
   ·
    exact hs e he
   ·
    exact ⟨x,hx,rfl,rfl⟩
theorem OV {P:Program} {ops:Array Oper} {rest:List Oper} {o:Oper} {a:Act} {Q:Exit→Act→World→Prop} {W:World} (hg:o.guard=none) (m x:Operand) (t:TypeId) (hop:o.op = .lookup t m x true) {vm vx v:Value} (hm:a.eval m=vm) (hx:a.eval x=vx)
  (hrun:(Instr.lookup t vm vx true).run P W = .ok v W) (h:wpList P ops Q rest (a.put o.dst v) W):wpList P ops Q (o::rest) a W:=by
 refine wpList_plain hg fun K' hK' => ?_
 unfold Oper.wp
 simp [execOp,hop,hm,hx,hrun,Result.andThen]
 exact hK' _ _ h
theorem qaB {P:Program} {ops:Array Oper} {rest:List Oper} {o:Oper} {a:Act} {Q:Exit→Act→World→Prop} {W W1:World} (hg:o.guard=none) (m x y:Operand) (t:TypeId) (hop:o.op = .mapUpdate t m x y) {vm vx v:Value} (hm:a.eval m=vm) (hx:a.eval x=vx) (hy:a.eval y=v)
  (hrun:(Instr.mapUpdate t vm vx v).run P W = .ok () W1) (h:wpList P ops Q rest (a.put o.dst undef) W1):wpList P ops Q (o::rest) a W:=by
 refine wpList_plain hg fun K' hK' => ?_
 unfold Oper.wp
 simp [execOp,hop,hm,hx,hy,hrun,Result.andThen]
 exact hK' _ _ h
theorem qtV (d:Nat) (w:World) (x0 y0:Int) :
  (Op.equalIn (d+2) 139 (.agg #[.int .i64 x0]) (.agg #[.int .i64 y0])).run Try.prog w = .ok (x0==y0) w:=by
 refine qoh Try.underlying139 (by kernel_rfl) ?_
 exact qhQ (by rfl) (by go_simp;rfl) (by go_simp;rfl) (by go_simp)
attribute [local go_sem high] qtV
theorem qiD (x:Int) (cells:List Jk) (i:Nat) (h:i<cells.length) (a b:Int):Ye.l x i (cells.drop i) a b=if (Go.bits .and .i64 (shr .i64 x (i:Int)) 1==1)=true then Ye.l x (i+1) (cells.drop (i+1)) (wrap64 (a+(Ky cells (i:Int)).f0)) (wrap64 (b+(Ky cells (i:Int)).f1)) else Ye.l x (i+1) (cells.drop (i+1)) a b:=by
 have e:Ky cells (i:Int)=cells[i]:=by simp [Ky,List.getD_eq_getElem?_getD,List.getElem?_eq_getElem h]
 rw [List.drop_eq_getElem_cons h,e]
 rfl
set_option maxHeartbeats 4000000 in
set_option maxRecDepth 100000 in
theorem qcJ.calls (A:Option Addr) (n c bm:Nat) (cells:List Jk) (x:Int) (w:World) (hr:Kd.C qcm w A cells.length cells) (hc:cells.length≤c) (hx:(Lit.int .i64 x).wf=true) (hm:MapI w bm cells) :
  Calls Try.prog 91 #[.agg #[.slice A cells.length c,.map (some bm)],.agg #[.int .i64 x]] w fun e w' =>
   e = .returned (.agg #[.int .i64 (Ye.s cells x).1,.int .i64 (Ye.s cells x).2])∧MapI w' bm cells∧Kept w w' (fun k=>k=bm)∧Below bm w w':=by
 obtain ⟨b,a1,a2,hcase,hrun⟩:=hm.look hx
 have qsW:=Try.underlying142
 have qsV:=Try.underlying139
 have qoI:=Try.underlying136
 have hlt:=hm.lt
 cases b with
 | true =>
  obtain ⟨rfl,rfl⟩:a1=(Ye.s cells x).1∧a2=(Ye.s cells x).2:=by simpa using hcase
  have HR:=Q0.mk hrun
  clear hrun hcase
  obtain ⟨s1,hs1⟩:∃ s1,(Ye.s cells x).1=s1:=⟨_,rfl⟩
  obtain ⟨s2,hs2⟩:∃ s2,(Ye.s cells x).2=s2:=⟨_,rfl⟩
  rw [hs1,hs2] at HR ⊢
  go_enter Try.func91,Try.ntmps91
  go_wp2_with (at_lookup;refine OV rfl _ _ 140 rfl rfl rfl (HR.out _ ?hw) ?_;(case hw=>exact (Q3 (Q3 (Q3 (Below.refl w.heap.size w) _) _) _).block bm hlt))
  refine bodyPost_ret (v:=.agg #[.int .i64 s1,.int .i64 s2]) (by simp [results,Try.results91,go_sem]) rfl ⟨rfl,?_⟩
  have hB:=Q3 (Q3 (Q3 (Q3 (Below.refl w.heap.size w) (.cells #[.slice A cells.length c,.map (some bm)] 142)) (.cells #[.int .i64 x] 139)) (.cells #[.int .i64 s1,.int .i64 s2] 136)) (.cells #[.int .i64 s1,.int .i64 s2] 136)
  exact ⟨hm.keep (hB.block bm hlt),Kept.of_below hB _,hB.mono (by omega)⟩
 | false =>
  obtain ⟨rfl,rfl⟩:a1=0∧a2=0:=by simpa using hcase
  have HR:=Q0.mk hrun
  have HM:=Q0.mk hm
  clear hrun hcase hm
  by_cases hx0:x=0
  ·
   subst hx0
   have hs1:(Ye.s cells 0).1=0:=by rw [Ye.s,qgT]
   have hs2:(Ye.s cells 0).2=0:=by rw [Ye.s,qgT]
   rw [hs1,hs2]
   go_enter Try.func91,Try.ntmps91
   go_wp2_with (at_lookup;refine OV rfl _ _ 140 rfl rfl rfl (HR.out _ ?hw) ?_;(case hw=>exact (Q3 (Q3 (Q3 (Below.refl w.heap.size w) _) _) _).block bm hlt))
   refine bodyPost_ret (v:=.agg #[.int .i64 0,.int .i64 0]) (by simp [results,Try.results91,go_sem]) rfl ⟨rfl,?_⟩
   have hB:=Q3 (Q3 (Q3 (Q3 (Below.refl w.heap.size w) (.cells #[.slice A cells.length c,.map (some bm)] 142)) (.cells #[.int .i64 0] 139)) (.cells #[.int .i64 0,.int .i64 0] 136)) (.cells #[.int .i64 0,.int .i64 0] 136)
   exact ⟨HM.out.keep (hB.block bm hlt),Kept.of_below hB _,hB.mono (by omega)⟩
  ·
   have hxb:(x==0)=false:=by simpa using hx0
   have HRd:=Q0.mk hr
   have hmx:cells.length≤9223372036854775807:=hr.2.1
   clear hr
   obtain ⟨sm,hsm⟩:∃ sm,Ye.s cells x=sm:=⟨_,rfl⟩
   have HSM:=Q0.mk hsm
   rw [hsm]
   clear hsm
   go_enter Try.func91,Try.ntmps91
   go_wp2_with (at_lookup;refine OV rfl _ _ 140 rfl rfl rfl (HR.out _ ?hw) ?_;(case hw=>exact (Q3 (Q3 (Q3 (Below.refl w.heap.size w) _) _) _).block bm hlt))
   go_loopg [26] cells.length (fun d v26 wr => ∃ (i:Nat),v26 = .int .i64 (i:Int)∧Q0 (i+d=cells.length)∧Q0 (∃ a b,wr.heap[w.heap.size+1+1+1]? = some (.cells #[.int .i64 a,.int .i64 b] 136 (0,0))∧Ye.l x i (cells.drop i) a b=sm) ∧
    Q0 (wr.heap[w.heap.size]? = some (.cells #[.slice A cells.length c,.map (some bm)] 142 (0,0))∧wr.heap[w.heap.size+1]? = some (.cells #[.int .i64 x] 139 (0,0))∧wr.heap[w.heap.size+1+1]? = some (.cells #[.int .i64 0,.int .i64 0] 136 (0,0)))∧Q0 (Below w.heap.size w wr))
   case atStart =>
    refine ⟨0,rfl,⟨by omega⟩,⟨0,0,?_,HSM.out⟩,⟨?_,?_,?_⟩,⟨Q3 (Q3 (Q3 (Q3 (Below.refl w.heap.size w) _) _) _) _⟩⟩
    ·
     have:=World.alloc_heap_new (((w.alloc (.cells #[.slice A cells.length c,.map (some bm)] 142)).alloc (.cells #[.int .i64 x] 139)).alloc (.cells #[.int .i64 0,.int .i64 0] 136)) (.cells #[.int .i64 0,.int .i64 0] 136)
     rwa [World.size_alloc,World.size_alloc,World.size_alloc] at this
    ·
     exact Q2 (Q2 (Q2 (World.alloc_heap_new w _) _) _) _
    ·
     refine Q2 (Q2 ?_ _) _;have:=World.alloc_heap_new (w.alloc (.cells #[.slice A cells.length c,.map (some bm)] 142)) (.cells #[.int .i64 x] 139)
     rwa [World.size_alloc] at this
    ·
     refine Q2 ?_ _;have:=World.alloc_heap_new ((w.alloc (.cells #[.slice A cells.length c,.map (some bm)] 142)).alloc (.cells #[.int .i64 x] 139)) (.cells #[.int .i64 0,.int .i64 0] 136)
     rwa [World.size_alloc,World.size_alloc] at this
   case round =>
    obtain ⟨i,rfl,HD,HN,HK,HB⟩:=hrel;obtain ⟨a,b,hn,hl⟩:=HN.out;obtain ⟨hb0,hb1,hb2⟩:=HK.out;have qFr:wr.cell? ⟨w.heap.size,0,none⟩=some (.slice A cells.length c):=(Q8 hb0 0).trans rfl;have qFs:wr.cell? ⟨w.heap.size,1,none⟩=some (.map (some bm)):=(Q8 hb0 1).trans rfl;have hc1:wr.cell? ⟨w.heap.size+1,0,none⟩=some (.int .i64 x):=(Q8 hb1 0).trans rfl;have qFt:wr.cell? ⟨w.heap.size+1+1,0,none⟩=some (.int .i64 0):=(Q8 hb2 0).trans rfl;have hc21:wr.cell? ⟨w.heap.size+1+1,1,none⟩=some (.int .i64 0):=(Q8 hb2 1).trans rfl;have qFx:=Q9 hb2 0;have qFy:=Q9 hb2 1;have qIR:wr.cell? ⟨w.heap.size+1+1+1,0,none⟩=some (.int .i64 a):=(Q8 hn 0).trans rfl;have hc31:wr.cell? ⟨w.heap.size+1+1+1,1,none⟩=some (.int .i64 b):=(Q8 hn 1).trans rfl;have qIZ:=Q9 hn 0;have qI0:=Q9 hn 1;have hlw:=QT hn;have hbx:∃ W,W=wr:=⟨_,rfl⟩;have HN':=Q0.mk hn;have HL:=Q0.mk hl;have HB0:=Q0.mk hb0;have HB1:=Q0.mk hb1;have HB2:=Q0.mk hb2;clear hn hl hb0 hb1 hb2 hbx HN HK
    by_cases hi:i<cells.length
    ·
     obtain ⟨d,rfl⟩:∃ d,gk=d+1:=⟨gk-1,by have:=HD.out;omega⟩;obtain ⟨ad,ea,hx0',qoJ⟩:=qla HRd.out (i:Int) (by omega) (by omega);subst ea;replace hx0':=(HB.out.cell (World.block_lt_of_cell? w _ hx0')).trans hx0';replace qoJ:=(HB.out.cell (World.block_lt_of_cell? w _ qoJ)).trans qoJ;rw [Int.toNat_natCast] at hx0' qoJ;have hst:=qiD x cells i hi a b;obtain ⟨ji4,qri⟩:∃ j_:Int,(shr .i64 x (i:Int))=j_:=⟨_,rfl⟩;rw [qri] at hst;have hji4_:(x / 2 ^ min ((i:Int)).toNat 64)=ji4:=qri;have hji4z:(i:Int)≤64→(x / 2 ^ ((i:Int)).toNat)=ji4:=qm7 qri;rw [Int.toNat_natCast] at hji4_ hji4z;clear qri;obtain ⟨e0,he0⟩:∃ e0,(Ky cells (i:Int)).f0=e0:=⟨_,rfl⟩;obtain ⟨e1,he1⟩:∃ e1,(Ky cells (i:Int)).f1=e1:=⟨_,rfl⟩;rw [he0,he1] at hst;rw [he0] at hx0';rw [he1] at qoJ;clear he0 he1;have hBa:=Q3 (Below.refl wr.heap.size wr) (.cells #[.int .i64 e0,.int .i64 e1] 136);have HBa:=Q0.mk hBa;have ha1:(wr.alloc (.cells #[.int .i64 e0,.int .i64 e1] 136)).cell? ⟨w.heap.size+1,0,none⟩=some (.int .i64 x):=(Q8 (Qf HB1.out hBa) 0).trans rfl;have qIK:(wr.alloc (.cells #[.int .i64 e0,.int .i64 e1] 136)).cell? ⟨w.heap.size+1+1+1,0,none⟩=some (.int .i64 a):=(Q8 (Qf HN'.out hBa) 0).trans rfl;have qIL:(wr.alloc (.cells #[.int .i64 e0,.int .i64 e1] 136)).cell? ⟨w.heap.size+1+1+1,1,none⟩=some (.int .i64 b):=(Q8 (Qf HN'.out hBa) 1).trans rfl;have qGF:=Q9 (Qf HN'.out hBa) 0;have qGG:=Q9 (Qf HN'.out hBa) 1;clear hBa qFr qFs qFt hc21 qFx qFy
     by_cases hbit:(Go.bits .and .i64 ji4 1==1)=true
     ·
      rw [if_pos hbit] at hst;have HL2:=Q0.mk (hst.symm.trans HL.out);clear hst
      go_wp2
      go_roundg d
      case measure=>omega
      case rel =>
       refine ⟨i+1,by simp,⟨by have:=HD.out;omega⟩,⟨_,_,Q2 (QH (QH HN'.out 0 _ rfl) 1 _ rfl) _,HL2.out⟩,⟨?_,?_,?_⟩,⟨Q3 (Q5 (Q5 HB.out (by omega)) (by omega)) _⟩⟩
       ·
        exact Q2 (Qp (Qp HB0.out (p:=⟨w.heap.size+1+1+1,0,none⟩) (by simp;omega) _) (p:=⟨w.heap.size+1+1+1,1,none⟩) (by simp;omega) _) _
       ·
        exact Q2 (Qp (Qp HB1.out (p:=⟨w.heap.size+1+1+1,0,none⟩) (by simp) _) (p:=⟨w.heap.size+1+1+1,1,none⟩) (by simp) _) _
       ·
        exact Q2 (Qp (Qp HB2.out (p:=⟨w.heap.size+1+1+1,0,none⟩) (by simp) _) (p:=⟨w.heap.size+1+1+1,1,none⟩) (by simp) _) _
     ·
      replace hbit:=Bool.eq_false_iff.mpr hbit;rw [if_neg (by rw [hbit];decide)] at hst;have HL2:=Q0.mk (hst.symm.trans HL.out);clear hst
      go_wp2
      go_roundg d
      case measure=>omega
      case rel =>
       exact ⟨i+1,by simp,⟨by have:=HD.out;omega⟩,⟨_,_,Q2 HN'.out _,HL2.out⟩,⟨Q2 HB0.out _,Q2 HB1.out _,Q2 HB2.out _⟩,⟨Q3 HB.out _⟩⟩
    ·
     have hil:i=cells.length:=by have:=HD.out;omega
     subst hil
     have hfin:(a,b)=sm:=by
      have h5:=HL.out;rw [List.drop_length] at h5
      exact h5
     have qEA:=Q0.mk (show Ye.s cells x=(a,b) by rw [hfin];exact HSM.out);subst hfin;clear HL HSM;obtain ⟨W1,qoF,hm1,hg1⟩:=(HM.out.keep (HB.out.block bm hlt)).store hx;rw [qEA.out] at qoF
     have hne:∀ k,w.heap.size≤k→some k≠some bm:=fun k hk e=>by injection e with e;omega
     have kp:∀ {g:Nat} {o:Obj},w.heap.size≤g→wr.heap[g]? = some o→W1.heap[g]? = some o:=fun {g o} hg ho=>(hg1.block g (Array.getElem?_eq_some_iff.1 ho).1 (hne g hg)).trans ho
     have qIW:W1.cell? ⟨w.heap.size+1+1+1,0,none⟩=some (.int .i64 a):=(Q8 (kp (by omega) HN'.out) 0).trans rfl;have hd31:W1.cell? ⟨w.heap.size+1+1+1,1,none⟩=some (.int .i64 b):=(Q8 (kp (by omega) HN'.out) 1).trans rfl;have qIU:W1.cell? ⟨w.heap.size+1+1,0,none⟩=some (.int .i64 0):=(Q8 (kp (by omega) HB2.out) 0).trans rfl;have qIV:W1.cell? ⟨w.heap.size+1+1,1,none⟩=some (.int .i64 0):=(Q8 (kp (by omega) HB2.out) 1).trans rfl;have qGI:=Q9 (kp (by omega) HB2.out) 0;have qGJ:=Q9 (kp (by omega) HB2.out) 1;have HG1:=Q0.mk hg1;have HM1:=Q0.mk hm1;have HRU:=Q0.mk qoF;have HF2:=Q0.mk (kp (by omega) HB2.out);clear hg1 hm1 qoF kp hne
     go_wp2_with (at_mapUpdate;refine qaB rfl _ _ _ 140 rfl rfl rfl rfl HRU.out ?_)
     refine bodyPost_ret (v:=.agg #[.int .i64 a,.int .i64 b]) ?_ rfl ⟨rfl,?_⟩
     ·
      refine (results_cell_row rfl _ _ (w.heap.size+1+1) 136 #[.int .i64 a,.int .i64 b] (0,0) _ rfl (QH (QH HF2.out 0 _ rfl) 1 _ rfl) Try.underlying136 rfl (by kernel_rfl))
     ·
      have hK1:Kept w W1 (fun k=>k=bm):=(Kept.of_below HB.out _).of_grown HG1.out (fun k e => .inl (by cases e;rfl));have hB1:Below bm w W1:=(HB.out.mono (by omega)).grown HG1.out (by omega) (fun k e=>by cases e;omega);refine ⟨HM1.out.keep ?_,?_,?_⟩
      ·
       exact (Below.heap_setCell _ _ _ bm (by simp;omega)).trans (Below.heap_setCell _ _ _ bm (by simp;omega))
      ·
       exact (hK1.setCell (.inr (by simp;omega)) _).setCell (.inr (by simp;omega)) _
      ·
       exact Below.setCell (Below.setCell hB1 (p:=⟨w.heap.size+1+1,0,none⟩) (by show bm≤w.heap.size+1+1;omega) _) (p:=⟨w.heap.size+1+1,1,none⟩) (by show bm≤w.heap.size+1+1;omega) _
end Go.Proofs.Ytmhomdohhihlcaa.P
