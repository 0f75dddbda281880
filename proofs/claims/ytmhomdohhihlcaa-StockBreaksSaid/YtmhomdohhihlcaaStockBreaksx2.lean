/- What the statement StockBreaks leans on, part 3 of 6: contracts of the program's functions; conditions: none. -/
import Derived.Maps.OwnSet
import Derived.DeepKeys4
import Derived.Deep.LoopGhost
import Derived.RangeFuncRecord
import Derived.Test.YtmhomdohhihlcaaStockBreaksx0
import Derived.Test.YtmhomdohhihlcaaStockBreaksx1
set_option linter.unusedVariables false
set_option linter.unusedSimpArgs false
set_option linter.constructorNameAsVariable false
set_option linter.unusedSectionVars false
namespace Go.Proofs.Ytmhomdohhihlcaa.P
open Go.RowKit Go.Proofs.YtmhomdohhihlcaaW.PrintWords Go.Proofs.YtmhomdohhihlcaaW.PrintLast Go.Proofs.YtmhomdohhihlcaaW.PrintMore
section
attribute [local go_sem] Yv Yx YJ YK Yl Ym Yw Yy
mutual
def Qd.j0:Nat→Bool→List (S39)→List Int→List (List (List Int))→Option (Bool)
 | 0,_,_,_,_=>none
 | k+1,x3,Jt,GC,Jk=>Qd.l0 k x3 0 Jt GC Jk
def Qd.l0:Nat→Bool→Int→List (S39)→List Int→List (List (List Int))→Option (Bool)
 | 0,_,_,_,_,_=>none
 | k+1,x3,x4,Jt,GC,Jk=>if x3=true then (Qd.j2 k x3 x4 (decide (x4<(Jt.length:Int))) Jt GC Jk) else (Qd.j2 k x3 x4 false Jt GC Jk)
def Qd.j2:Nat→Bool→Int→Bool→List (S39)→List Int→List (List (List Int))→Option (Bool)
 | 0,_,_,_,_,_,_=>none
 | k+1,x3,x4,x38,Jt,GC,Jk=>if x38=true then (if 0≤x4 then (if x4<(Jt.length:Int) then ((Qq.f k ((Qe Jt x4).f0) ((Qe Jt x4).f1) ((Qe Jt x4).f2) ((Qe Jt x4).f3) ((Qe Jt x4).f4)).bind fun qk9=>(if qk9=true then (if x4<(GC.length:Int) then ((Qn.f (rd GC x4) 0 100).bind fun qgM=>(Qd.l0 k qgM (wrap64 (x4+1)) Jt GC Jk)) else (none)) else (Qd.l0 k false (wrap64 (x4+1)) Jt GC Jk))) else (none)) else (none)) else (Qd.l1 k x3 0 Jt GC Jk)
def Qd.l1:Nat→Bool→Int→List (S39)→List Int→List (List (List Int))→Option (Bool)
 | 0,_,_,_,_,_=>none
 | k+1,x3,x5,Jt,GC,Jk=>if x3=true then (Qd.j4 k x3 x5 (decide (x5<(Jk.length:Int))) Jt GC Jk) else (Qd.j4 k x3 x5 false Jt GC Jk)
def Qd.j4:Nat→Bool→Int→Bool→List (S39)→List Int→List (List (List Int))→Option (Bool)
 | 0,_,_,_,_,_,_=>none
 | k+1,x3,x5,x62,Jt,GC,Jk=>if x62=true then (if 0≤x5 then (if x5<(Jk.length:Int) then (Qd.l2 k (((Qs Jk x5).length:Int)==(Jt.length:Int)) x5 0 Jt GC Jk) else (none)) else (none)) else (some x3)
def Qd.l2:Nat→Bool→Int→Int→List (S39)→List Int→List (List (List Int))→Option (Bool)
 | 0,_,_,_,_,_,_=>none
 | k+1,x3,x5,x6,Jt,GC,Jk=>if x3=true then (if x6<(Jt.length:Int) then (if 0≤x5 then (if x5<(Jk.length:Int) then (if 0≤x6 then (if x6<((Qs Jk x5).length:Int) then ((Qn.f ((QC (Qs Jk x5) x6).length:Int) 1 10).bind fun qpd=>(if qpd=true then (if 0<(Jk.length:Int) then (if 0<((Qs Jk 0).length:Int) then (Qd.l2 k (((QC (Qs Jk x5) x6).length:Int)==((QC (Qs Jk 0) 0).length:Int)) x5 (wrap64 (x6+1)) Jt GC Jk) else (none)) else (none)) else (Qd.l2 k false x5 (wrap64 (x6+1)) Jt GC Jk))) else (none)) else (none)) else (none)) else (none)) else (Qd.l1 k x3 (wrap64 (x5+1)) Jt GC Jk)) else (Qd.l1 k x3 (wrap64 (x5+1)) Jt GC Jk)
end
def Qd.f (k:Nat) (Qa:List (S39)) (Qf:List Int) (Qb:List (List (List Int))):Option (Bool):=(Qj.f k Qa Qf Qb).bind fun qed=>(if qed=0 then ((Qn.f (Qa.length:Int) 1 3).bind fun qk8=>(if qk8=true then (if (Qf.length:Int)=(Qa.length:Int) then ((Qn.f (Qb.length:Int) 1 6).bind fun qep=>(Qd.j0 k qep Qa Qf Qb)) else (Qd.j0 k false Qa Qf Qb)) else (Qd.j0 k false Qa Qf Qb))) else (Qd.j0 k false Qa Qf Qb))
def Qd.T9:Bool × List (List Nat × List Nat):=(true,[([],[]),([0],[0]),([],[]),([1,2],[1,2]),([3],[3]),([4],[4]),([],[]),([6],[6]),([7],[7]),([5,8],[5,8]),([9,0,1,2,3,4,5,6,7,8,9],[9])])
def Qd.B9:List Nat:=[0,1,0,7,15,31,0,64,192,511,1023]
theorem Qd.tab9:rtab .any (qgo Try.f51 9)=Qd.T9:=by kernel_rfl
theorem Qd.bits9:U4 Qd.T9.2 Qd.B9=true:=by kernel_rfl
def Qd.T13:Bool × List (List Nat × List Nat):=(true,[([],[]),([0],[0]),([],[]),([1,2],[1,2]),([3],[3]),([],[]),([4,5],[4,5]),([6],[6]),([7],[7]),([8],[8]),([9,9],[9]),([10],[10]),([11,10],[10,11]),([10],[10]),([12,13,10],[10,12,13]),([14,10],[10,14]),([10],[10]),([15,16,10],[10,15,16]),([17,10],[10,17]),([18,10],[10,18]),([10],[10]),([20,10],[10,20]),([21,10],[10,21]),([22,10],[10,22]),([23,10],[10,23]),([24,10],[10,24]),([25,10],[10,25]),([19,26,10],[10,19,26]),([10,27],[10,27]),([28,10,0,1,2,3,4,5,6,7,8,9,10,11,12,13,14,15,16,17,18,19,20,21,22,23,24,25,26,27,28],[28])])
def Qd.B13:List Nat:=[0,1,0,7,15,0,63,127,255,511,1023,2047,4095,2047,16383,32767,2047,131071,262143,524287,2047,1050623,3147775,7342079,15730687,32507903,66062335,134217727,268435455,536870911]
theorem Qd.tab13:rtab .any (qgo Try.f51 13)=Qd.T13:=by kernel_rfl
theorem Qd.bits13:U4 Qd.T13.2 Qd.B13=true:=by kernel_rfl
set_option maxHeartbeats 8000000 in
set_option maxRecDepth 100000 in
theorem Qd.calls (k:Nat) (QD:Option Addr) (Qu:Nat) (Qa:List (S39)) (QB:Option Addr) (Qv:Nat) (Qf:List Int) (QK:Option Addr) (Qw:Nat) (Qb:List (List (List Int))) (r:Bool) (w:World) (Gk:Kd.C k39 w QD Qa.length Qa) (Gy:Qa.length≤Qu) (Gl:Kd.C (Kd.int .i64) w QB Qf.length Qf) (Gz:Qf.length≤Qv) (Gm:Kd.C (Kd.slice 37 (Kd.slice 3 (Kd.int .i64))) w QK Qb.length Qb) (GA:Qb.length≤Qw) (h:Qd.f k Qa Qf Qb=some r) :
  Calls Try.prog 51 #[.agg #[.slice QD Qa.length Qu,.slice QB Qf.length Qv,.slice QK Qb.length Qw]] w fun e w'=>e = .returned (.bool r)∧Below w.heap.size w w':=by
 have qoO:=Try.underlying47
 have qlQ:=Try.underlying39
 have YV:=Q0.mk Gk
 have ZA:=Q0.mk Gy
 clear Gk Gy
 have Zj:=Q0.mk Gl
 have ZB:=Q0.mk Gz
 clear Gl Gz
 have Z5:=Q0.mk Gm
 have ZC:=Q0.mk GA
 clear Gm GA
 have HB:=Q0.mk (Below.refl w.heap.size w)
 have H:((Qj.f k Qa Qf Qb).bind fun qed=>(if qed=0 then ((Qn.f (Qa.length:Int) 1 3).bind fun qk8=>(if qk8=true then (if (Qf.length:Int)=(Qa.length:Int) then ((Qn.f (Qb.length:Int) 1 6).bind fun qep=>(Qd.j0 k qep Qa Qf Qb)) else (Qd.j0 k false Qa Qf Qb)) else (Qd.j0 k false Qa Qf Qb))) else (Qd.j0 k false Qa Qf Qb)))=some r:=h
 clear h
 have HC2:=Q0.mk H
 clear H
 go_enter Try.func51,Try.ntmps51
 go_upto_region 1 with (first|((with_reducible refine QZ (N:=1) rfl ?_);(try (refine JI (by rfl) ?_;dsimp only));refine Yr ?hg (N:=1) ?hd (cs:=#[.slice QD Qa.length Qu,.slice QB Qf.length Qv,.slice QK Qb.length Qw]) (t:=47) ?hr ?_;(case hd=>rfl);(case hg=>rfl);(case hr=>first|(go_simp;done)|(go_simp;rfl));intro Zl hg w3 hbox hb;have n0_:=Q0.mk (Qk (by repeat (first|(with_reducible first|exact HB.out|apply Q3|apply Q1|apply Q6)|exact HB.out)) hb);have n1_:=Q0.mk (hbox);have n2_:=Q0.mk ((by rw [hg];exact (Qh (by repeat (first|(with_reducible first|exact HB.out|apply Q3|apply Q1|apply Q6)|exact HB.out))):w.heap.size≤Zl));have n3_:=n2_;clear HB;have HB:=n0_;have Y1:=n1_;have qII:=n2_;have KU:=n3_;clear n0_ n1_ n2_ n3_ hb hbox hg))
 (try simp only [Act.put,List.setIfInBounds_toArray,List.set_cons_zero,List.set_cons_succ])
 go_cut [3] (fun v3 wc => ∃ (kq:Nat) (qjt:Bool),v3 = .bool qjt∧Q0 (Qd.j0 kq qjt Qa Qf Qb=some r)∧Q0 (kq≤k)∧Q0 (wc.heap[Zl]? = some (.cells #[(.slice QD Qa.length Qu),(.slice QB Qf.length Qv),(.slice QK Qb.length Qw)] 47 (0,0)))∧Q0 (Below w.heap.size w wc))
 case first =>
  have H:=HC2.out
  clear HC2
  replace H:=Option.bind_eq_some_iff.mp H
  obtain ⟨qed,A40,H⟩:=H
  replace H:(if qed=0 then ((Qn.f (Qa.length:Int) 1 3).bind fun qk8=>(if qk8=true then (if (Qf.length:Int)=(Qa.length:Int) then ((Qn.f (Qb.length:Int) 1 6).bind fun qep=>(Qd.j0 k qep Qa Qf Qb)) else (Qd.j0 k false Qa Qf Qb)) else (Qd.j0 k false Qa Qf Qb))) else (Qd.j0 k false Qa Qf Qb))=some r:=H
  have A4:=Q0.mk A40
  clear A40
  by_cases c5:qed=0
  ·
   rw [if_pos c5] at H
   have c5b0:(qed==0)=true:=beq_iff_eq.mpr c5
   have c5b1:(qed != 0)=false:=bne_eq_false_iff_eq.mpr c5
   clear c5
   (first|rw [c5b0]|(simp only [QL,QO];rw [c5b0])|skip)
   replace H:=Option.bind_eq_some_iff.mp H
   obtain ⟨qk8,A60,H⟩:=H
   replace H:(if qk8=true then (if (Qf.length:Int)=(Qa.length:Int) then ((Qn.f (Qb.length:Int) 1 6).bind fun qep=>(Qd.j0 k qep Qa Qf Qb)) else (Qd.j0 k false Qa Qf Qb)) else (Qd.j0 k false Qa Qf Qb))=some r:=H
   have A6:=Q0.mk A60
   clear A60
   by_cases c7:qk8=true
   ·
    subst c7
    have H1:(if (Qf.length:Int)=(Qa.length:Int) then ((Qn.f (Qb.length:Int) 1 6).bind fun qep=>(Qd.j0 k qep Qa Qf Qb)) else (Qd.j0 k false Qa Qf Qb))=some r:=by rw [if_pos rfl] at H;exact H
    clear H;have H:=H1;clear H1
    by_cases c8:(Qf.length:Int)=(Qa.length:Int)
    ·
     rw [if_pos c8] at H;have c8b0:((Qf.length:Int)==(Qa.length:Int))=true:=beq_iff_eq.mpr c8;have c8b1:((Qf.length:Int) != (Qa.length:Int))=false:=bne_eq_false_iff_eq.mpr c8
     have c8b2:(Qf.length==Qa.length)=true:=by first|simpa using c8|(simp at c8 ⊢;omega)
     clear c8;replace H:=Option.bind_eq_some_iff.mp H;obtain ⟨qep,A90,H⟩:=H;replace H:(Qd.j0 k qep Qa Qf Qb)=some r:=H;have A9:=Q0.mk A90;clear A90;have H':=Q0.mk H;clear H;have ZS:w3.cell? ⟨Zl,0,none⟩=some (.slice QD Qa.length Qu):=(Q9 Y1.out 0).trans rfl;have ZT:w3.cell? ⟨Zl,1,none⟩=some (.slice QB Qf.length Qv):=(Q9 Y1.out 1).trans rfl;have ZX:w3.cell? ⟨Zl,2,none⟩=some (.slice QK Qb.length Qw):=(Q9 Y1.out 2).trans rfl;have ZU:=Q8 Y1.out 0;have ZV:=Q8 Y1.out 1;have ZY:=Q8 Y1.out 2
     go_wp2_with (first|((with_reducible refine QG (f:=30) rfl ?_);refine YF (some 8) rfl rfl Try.func30 (by kernel_rfl) rfl #[.agg #[.slice QD Qa.length Qu,.slice QB Qf.length Qv,.slice QK Qb.length Qw]] rfl (by (try simp only [List.map_toArray,List.map_cons,List.map_nil]);first|done|rfl|(simp only [List.length_drop,List.length_take];rfl)) ?_;(with_reducible refine (Qj.calls k _ _ Qa _ _ Qf _ _ Qb qed _ ?side1 ?side2 ?side3 ?side4 ?side5 ?side6 A4.out).mono ?_);(case side1=>repeat (first|exact (Kd.C_below YV.out HB.out)|(with_reducible refine Kd.C_alloc ?_ _)|(with_reducible refine Kd.C_drewN ?_ _)|(with_reducible refine Kd.C_drew ?_)));(case side2=>exact ZA.out);(case side3=>repeat (first|exact (Kd.C_below Zj.out HB.out)|(with_reducible refine Kd.C_alloc ?_ _)|(with_reducible refine Kd.C_drewN ?_ _)|(with_reducible refine Kd.C_drew ?_)));(case side4=>exact ZB.out);(case side5=>repeat (first|exact (Kd.C_below Z5.out HB.out)|(with_reducible refine Kd.C_alloc ?_ _)|(with_reducible refine Kd.C_drewN ?_ _)|(with_reducible refine Kd.C_drew ?_)));(case side6=>exact ZC.out);rintro e w11 ⟨rfl,hb⟩;refine ⟨_,rfl,?_⟩;have n0_:=Q0.mk (Qg (g:=Zl) (by (with_reducible repeat (first|refine Q4 ?_ _|refine Q7 ?_|refine Q2 ?_ _));exact Y1.out) hb);have n1_:=Q0.mk (Qk (by repeat (first|(with_reducible first|exact HB.out|apply Q3|apply Q1|apply Q6|refine Q5 ?_ KU.out)|exact HB.out)) hb);clear Y1 HB;have Y1:=n0_;have HB:=n1_;clear n0_ n1_;(try clear hb);(try clear hb2);(try clear hk);(try clear hi);have GX:w11.cell? ⟨Zl,0,none⟩=some (.slice QD Qa.length Qu):=(Q9 Y1.out 0).trans rfl;have GY:w11.cell? ⟨Zl,1,none⟩=some (.slice QB Qf.length Qv):=(Q9 Y1.out 1).trans rfl;have Kz:w11.cell? ⟨Zl,2,none⟩=some (.slice QK Qb.length Qw):=(Q9 Y1.out 2).trans rfl;have K2:=Q8 Y1.out 0;have Ka:=Q8 Y1.out 1;have KE:=Q8 Y1.out 2)|(go_at_call 34;(with_reducible refine (Qn.calls (Qa.length:Int) 1 3 true _ A6.out).mono ?_);rintro e w' ⟨rfl,⟨nd,rfl⟩⟩)|(go_at_call 34;(with_reducible refine (Qn.calls (Qb.length:Int) 1 6 qep _ A9.out).mono ?_);rintro e w' ⟨rfl,⟨nd,rfl⟩⟩))
     go_meet
     case rel=>exact ⟨_,(qep),(by first|rfl|(simp;done)|(simp [*];done)),H',⟨by first|omega|exact Nat.le_refl _⟩,⟨by (with_reducible repeat (first|refine Q4 ?_ _|refine Q7 ?_|refine Q2 ?_ _));exact Y1.out⟩,⟨by repeat (first|(with_reducible first|exact HB.out|apply Q3|apply Q1|apply Q6|refine Q5 ?_ KU.out)|exact HB.out)⟩⟩
    rw [if_neg c8] at H;have c8b0:((Qf.length:Int)==(Qa.length:Int))=false:=beq_eq_false_iff_ne.mpr c8;have c8b1:((Qf.length:Int) != (Qa.length:Int))=true:=bne_iff_ne.mpr c8
    have c8b2:(Qf.length==Qa.length)=false:=by first|simpa using c8|(simp at c8 ⊢;omega)
    have H':=Q0.mk H;clear H;have KA:w3.cell? ⟨Zl,0,none⟩=some (.slice QD Qa.length Qu):=(Q9 Y1.out 0).trans rfl;have KB:w3.cell? ⟨Zl,1,none⟩=some (.slice QB Qf.length Qv):=(Q9 Y1.out 1).trans rfl;have KC:w3.cell? ⟨Zl,2,none⟩=some (.slice QK Qb.length Qw):=(Q9 Y1.out 2).trans rfl;have KF:=Q8 Y1.out 0;have KG:=Q8 Y1.out 1;have KH:=Q8 Y1.out 2
    go_wp2_with (first|((with_reducible refine QG (f:=30) rfl ?_);refine YF (some 8) rfl rfl Try.func30 (by kernel_rfl) rfl #[.agg #[.slice QD Qa.length Qu,.slice QB Qf.length Qv,.slice QK Qb.length Qw]] rfl (by (try simp only [List.map_toArray,List.map_cons,List.map_nil]);first|done|rfl|(simp only [List.length_drop,List.length_take];rfl)) ?_;(with_reducible refine (Qj.calls k _ _ Qa _ _ Qf _ _ Qb qed _ ?side1 ?side2 ?side3 ?side4 ?side5 ?side6 A4.out).mono ?_);(case side1=>repeat (first|exact (Kd.C_below YV.out HB.out)|(with_reducible refine Kd.C_alloc ?_ _)|(with_reducible refine Kd.C_drewN ?_ _)|(with_reducible refine Kd.C_drew ?_)));(case side2=>exact ZA.out);(case side3=>repeat (first|exact (Kd.C_below Zj.out HB.out)|(with_reducible refine Kd.C_alloc ?_ _)|(with_reducible refine Kd.C_drewN ?_ _)|(with_reducible refine Kd.C_drew ?_)));(case side4=>exact ZB.out);(case side5=>repeat (first|exact (Kd.C_below Z5.out HB.out)|(with_reducible refine Kd.C_alloc ?_ _)|(with_reducible refine Kd.C_drewN ?_ _)|(with_reducible refine Kd.C_drew ?_)));(case side6=>exact ZC.out);rintro e w14 ⟨rfl,hb⟩;refine ⟨_,rfl,?_⟩;have n0_:=Q0.mk (Qg (g:=Zl) (by (with_reducible repeat (first|refine Q4 ?_ _|refine Q7 ?_|refine Q2 ?_ _));exact Y1.out) hb);have n1_:=Q0.mk (Qk (by repeat (first|(with_reducible first|exact HB.out|apply Q3|apply Q1|apply Q6|refine Q5 ?_ KU.out)|exact HB.out)) hb);clear Y1 HB;have Y1:=n0_;have HB:=n1_;clear n0_ n1_;(try clear hb);(try clear hb2);(try clear hk);(try clear hi);have JO:w14.cell? ⟨Zl,0,none⟩=some (.slice QD Qa.length Qu):=(Q9 Y1.out 0).trans rfl;have JP:w14.cell? ⟨Zl,1,none⟩=some (.slice QB Qf.length Qv):=(Q9 Y1.out 1).trans rfl;have JX:w14.cell? ⟨Zl,2,none⟩=some (.slice QK Qb.length Qw):=(Q9 Y1.out 2).trans rfl;have JQ:=Q8 Y1.out 0;have JU:=Q8 Y1.out 1;have JY:=Q8 Y1.out 2)|(go_at_call 34;(with_reducible refine (Qn.calls (Qa.length:Int) 1 3 true _ A6.out).mono ?_);rintro e w' ⟨rfl,⟨nd,rfl⟩⟩))
    go_meet
    case rel=>exact ⟨_,(false),(by first|rfl|(simp;done)|(simp [*];done)),H',⟨by first|omega|exact Nat.le_refl _⟩,⟨by (with_reducible repeat (first|refine Q4 ?_ _|refine Q7 ?_|refine Q2 ?_ _));exact Y1.out⟩,⟨by repeat (first|(with_reducible first|exact HB.out|apply Q3|apply Q1|apply Q6|refine Q5 ?_ KU.out)|exact HB.out)⟩⟩
   replace c7:=Bool.eq_false_iff.mpr c7
   subst c7
   have H1:(Qd.j0 k false Qa Qf Qb)=some r:=by rw [if_neg (show ¬ (false=true) by decide)] at H;exact H
   clear H
   have H:=H1
   clear H1
   have H':=Q0.mk H
   clear H
   have OR:w3.cell? ⟨Zl,0,none⟩=some (.slice QD Qa.length Qu):=(Q9 Y1.out 0).trans rfl
   have OS:w3.cell? ⟨Zl,1,none⟩=some (.slice QB Qf.length Qv):=(Q9 Y1.out 1).trans rfl
   have OT:w3.cell? ⟨Zl,2,none⟩=some (.slice QK Qb.length Qw):=(Q9 Y1.out 2).trans rfl
   have OU:=Q8 Y1.out 0
   have OV:=Q8 Y1.out 1
   have OW:=Q8 Y1.out 2
   go_wp2_with (first|((with_reducible refine QG (f:=30) rfl ?_);refine YF (some 8) rfl rfl Try.func30 (by kernel_rfl) rfl #[.agg #[.slice QD Qa.length Qu,.slice QB Qf.length Qv,.slice QK Qb.length Qw]] rfl (by (try simp only [List.map_toArray,List.map_cons,List.map_nil]);first|done|rfl|(simp only [List.length_drop,List.length_take];rfl)) ?_;(with_reducible refine (Qj.calls k _ _ Qa _ _ Qf _ _ Qb qed _ ?side1 ?side2 ?side3 ?side4 ?side5 ?side6 A4.out).mono ?_);(case side1=>repeat (first|exact (Kd.C_below YV.out HB.out)|(with_reducible refine Kd.C_alloc ?_ _)|(with_reducible refine Kd.C_drewN ?_ _)|(with_reducible refine Kd.C_drew ?_)));(case side2=>exact ZA.out);(case side3=>repeat (first|exact (Kd.C_below Zj.out HB.out)|(with_reducible refine Kd.C_alloc ?_ _)|(with_reducible refine Kd.C_drewN ?_ _)|(with_reducible refine Kd.C_drew ?_)));(case side4=>exact ZB.out);(case side5=>repeat (first|exact (Kd.C_below Z5.out HB.out)|(with_reducible refine Kd.C_alloc ?_ _)|(with_reducible refine Kd.C_drewN ?_ _)|(with_reducible refine Kd.C_drew ?_)));(case side6=>exact ZC.out);rintro e w17 ⟨rfl,hb⟩;refine ⟨_,rfl,?_⟩;have n0_:=Q0.mk (Qg (g:=Zl) (by (with_reducible repeat (first|refine Q4 ?_ _|refine Q7 ?_|refine Q2 ?_ _));exact Y1.out) hb);have n1_:=Q0.mk (Qk (by repeat (first|(with_reducible first|exact HB.out|apply Q3|apply Q1|apply Q6|refine Q5 ?_ KU.out)|exact HB.out)) hb);clear Y1 HB;have Y1:=n0_;have HB:=n1_;clear n0_ n1_;(try clear hb);(try clear hb2);(try clear hk);(try clear hi);have GZ:w17.cell? ⟨Zl,0,none⟩=some (.slice QD Qa.length Qu):=(Q9 Y1.out 0).trans rfl;have K0:w17.cell? ⟨Zl,1,none⟩=some (.slice QB Qf.length Qv):=(Q9 Y1.out 1).trans rfl;have K1:w17.cell? ⟨Zl,2,none⟩=some (.slice QK Qb.length Qw):=(Q9 Y1.out 2).trans rfl;have Kb:=Q8 Y1.out 0;have Ke:=Q8 Y1.out 1;have Kf:=Q8 Y1.out 2)|(go_at_call 34;(with_reducible refine (Qn.calls (Qa.length:Int) 1 3 false _ A6.out).mono ?_);rintro e w' ⟨rfl,⟨nd,rfl⟩⟩))
   go_meet
   case rel=>exact ⟨_,(false),(by first|rfl|(simp;done)|(simp [*];done)),H',⟨by first|omega|exact Nat.le_refl _⟩,⟨by (with_reducible repeat (first|refine Q4 ?_ _|refine Q7 ?_|refine Q2 ?_ _));exact Y1.out⟩,⟨by repeat (first|(with_reducible first|exact HB.out|apply Q3|apply Q1|apply Q6|refine Q5 ?_ KU.out)|exact HB.out)⟩⟩
  rw [if_neg c5] at H
  have c5b0:(qed==0)=false:=beq_eq_false_iff_ne.mpr c5
  have c5b1:(qed != 0)=true:=bne_iff_ne.mpr c5
  (first|rw [c5b0]|(simp only [QL,QO];rw [c5b0])|skip)
  have H':=Q0.mk H
  clear H
  have XS:w3.cell? ⟨Zl,0,none⟩=some (.slice QD Qa.length Qu):=(Q9 Y1.out 0).trans rfl
  have XT:w3.cell? ⟨Zl,1,none⟩=some (.slice QB Qf.length Qv):=(Q9 Y1.out 1).trans rfl
  have XU:w3.cell? ⟨Zl,2,none⟩=some (.slice QK Qb.length Qw):=(Q9 Y1.out 2).trans rfl
  have qag:=Q8 Y1.out 0
  have qah:=Q8 Y1.out 1
  have qai:=Q8 Y1.out 2
  go_wp2_with (first|((with_reducible refine QG (f:=30) rfl ?_);refine YF (some 8) rfl rfl Try.func30 (by kernel_rfl) rfl #[.agg #[.slice QD Qa.length Qu,.slice QB Qf.length Qv,.slice QK Qb.length Qw]] rfl (by (try simp only [List.map_toArray,List.map_cons,List.map_nil]);first|done|rfl|(simp only [List.length_drop,List.length_take];rfl)) ?_;(with_reducible refine (Qj.calls k _ _ Qa _ _ Qf _ _ Qb qed _ ?side1 ?side2 ?side3 ?side4 ?side5 ?side6 A4.out).mono ?_);(case side1=>repeat (first|exact (Kd.C_below YV.out HB.out)|(with_reducible refine Kd.C_alloc ?_ _)|(with_reducible refine Kd.C_drewN ?_ _)|(with_reducible refine Kd.C_drew ?_)));(case side2=>exact ZA.out);(case side3=>repeat (first|exact (Kd.C_below Zj.out HB.out)|(with_reducible refine Kd.C_alloc ?_ _)|(with_reducible refine Kd.C_drewN ?_ _)|(with_reducible refine Kd.C_drew ?_)));(case side4=>exact ZB.out);(case side5=>repeat (first|exact (Kd.C_below Z5.out HB.out)|(with_reducible refine Kd.C_alloc ?_ _)|(with_reducible refine Kd.C_drewN ?_ _)|(with_reducible refine Kd.C_drew ?_)));(case side6=>exact ZC.out);rintro e w20 ⟨rfl,hb⟩;refine ⟨_,rfl,?_⟩;have n0_:=Q0.mk (Qg (g:=Zl) (by (with_reducible repeat (first|refine Q4 ?_ _|refine Q7 ?_|refine Q2 ?_ _));exact Y1.out) hb);have n1_:=Q0.mk (Qk (by repeat (first|(with_reducible first|exact HB.out|apply Q3|apply Q1|apply Q6|refine Q5 ?_ KU.out)|exact HB.out)) hb);clear Y1 HB;have Y1:=n0_;have HB:=n1_;clear n0_ n1_;(try clear hb);(try clear hb2);(try clear hk);(try clear hi)))
  go_meet
  case rel=>exact ⟨_,(false),(by first|rfl|(simp;done)|(simp [*];done)),H',⟨by first|omega|exact Nat.le_refl _⟩,⟨by (with_reducible repeat (first|refine Q4 ?_ _|refine Q7 ?_|refine Q2 ?_ _));exact Y1.out⟩,⟨by repeat (first|(with_reducible first|exact HB.out|apply Q3|apply Q1|apply Q6|refine Q5 ?_ KU.out)|exact HB.out)⟩⟩
 case rest =>
  clear HC2
  try clear p2
  try clear c3
  try clear c5
  try clear c5b0
  try clear c5b1
  try clear c7
  try clear c8
  try clear c8b0
  try clear c8b1
  try clear c8b2
  try clear ZS
  try clear ZT
  try clear ZX
  try clear GX
  try clear GY
  try clear Kz
  try clear KA
  try clear KB
  try clear KC
  try clear JO
  try clear JP
  try clear JX
  try clear OR
  try clear OS
  try clear OT
  try clear GZ
  try clear K0
  try clear K1
  try clear XS
  try clear XT
  try clear XU
  try clear ZU
  try clear ZV
  try clear ZY
  try clear K2
  try clear Ka
  try clear KE
  try clear KF
  try clear KG
  try clear KH
  try clear JQ
  try clear JU
  try clear JY
  try clear OU
  try clear OV
  try clear OW
  try clear Kb
  try clear Ke
  try clear Kf
  try clear qag
  try clear qah
  try clear qai
  obtain ⟨kq,qjt,rfl,HA,HJ1,Y1,HB⟩:=hcut
  cases kq with
  | zero=>exact absurd HA.out (by simp [Qd.j0])
  | succ kj1 =>
   have H:=HA.out
   clear HA
   simp only [Qd.j0] at H
   have H':=Q0.mk H
   clear H
   go_wp2
   go_loopg [3,4] kj1 (fun kq v3 v4 w' => ∃ (qmH:Bool) (Zv:Int),v3 = .bool qmH∧v4 = .int .i64 Zv∧Q0 (Qd.l0 kq qmH Zv Qa Qf Qb=some r)∧Q0 (kq≤kj1)∧Q0 (w'.heap[Zl]? = some (.cells #[(.slice QD Qa.length Qu),(.slice QB Qf.length Qv),(.slice QK Qb.length Qw)] 47 (0,0)))∧Q0 (Below w.heap.size w w'))
   case atStart=>exact ⟨(qjt),(0),(by first|rfl|(simp;done)|(simp [*];done)),(by first|rfl|(simp;done)|(simp [*];done)),H',⟨Nat.le_refl _⟩,⟨by (with_reducible repeat (first|refine Q4 ?_ _|refine Q7 ?_|refine Q2 ?_ _));exact Y1.out⟩,⟨by repeat (first|(with_reducible first|exact HB.out|apply Q3|apply Q1|apply Q6|refine Q5 ?_ KU.out)|exact HB.out)⟩⟩
   case round =>
    clear H';(try clear p2);(try clear c3);(try clear c5);(try clear c5b0);(try clear c5b1);(try clear c7);(try clear c8);(try clear c8b0);(try clear c8b1);(try clear c8b2);(try clear ZS);(try clear ZT);(try clear ZX);(try clear GX);(try clear GY);(try clear Kz);(try clear KA);(try clear KB);(try clear KC);(try clear JO);(try clear JP);(try clear JX);(try clear OR);(try clear OS);(try clear OT);(try clear GZ);(try clear K0);(try clear K1);(try clear XS);(try clear XT);(try clear XU);(try clear ZU);(try clear ZV);(try clear ZY);(try clear K2);(try clear Ka);(try clear KE);(try clear KF);(try clear KG);(try clear KH);(try clear JQ);(try clear JU);(try clear JY);(try clear OU);(try clear OV);(try clear OW);(try clear Kb);(try clear Ke);(try clear Kf);(try clear qag);(try clear qah);(try clear qai);(try clear p2);obtain ⟨qmH,Zv,rfl,rfl,HA,HK2,Y1,HB⟩:=hrel
    cases gk with
    | zero=>exact absurd HA.out (by simp [Qd.l0])
    | succ k2 =>
     have H:=HA.out;clear HA;simp only [Qd.l0] at H;have qvM:=Q0.mk H;clear H
     go_upto_region 3 with (fail)
     go_cut [38] (fun v38 wc => ∃ (kq:Nat) (qjr:Bool),v38 = .bool qjr∧Q0 (Qd.j2 kq qmH Zv qjr Qa Qf Qb=some r)∧Q0 (kq≤k2)∧Q0 (wc.heap[Zl]? = some (.cells #[(.slice QD Qa.length Qu),(.slice QB Qf.length Qv),(.slice QK Qb.length Qw)] 47 (0,0)))∧Q0 (Below w.heap.size w wc))
     case first =>
      have H:=qvM.out;clear qvM
      by_cases c22:qmH=true
      ·
       subst c22
       have H1:(Qd.j2 k2 true Zv (decide (Zv<(Qa.length:Int))) Qa Qf Qb)=some r:=by rw [if_pos rfl] at H;exact H
       clear H;have H:=H1;clear H1;have H':=Q0.mk H;clear H;have Uo:wr.cell? ⟨Zl,0,none⟩=some (.slice QD Qa.length Qu):=(Q9 Y1.out 0).trans rfl;have Up:wr.cell? ⟨Zl,1,none⟩=some (.slice QB Qf.length Qv):=(Q9 Y1.out 1).trans rfl;have Uq:wr.cell? ⟨Zl,2,none⟩=some (.slice QK Qb.length Qw):=(Q9 Y1.out 2).trans rfl;have Ur:=Q8 Y1.out 0;have Us:=Q8 Y1.out 1;have Ut:=Q8 Y1.out 2
       go_wp2
       go_meet
       case rel=>exact ⟨_,(decide (Zv<(Qa.length:Int))),(by first|rfl|(simp;done)|(simp [*];done)),H',⟨by have:=HJ1.out;have:=HK2.out;first|omega|exact Nat.le_refl _⟩,⟨by (with_reducible repeat (first|refine Q4 ?_ _|refine Q7 ?_|refine Q2 ?_ _));exact Y1.out⟩,⟨by repeat (first|(with_reducible first|exact HB.out|apply Q3|apply Q1|apply Q6|refine Q5 ?_ KU.out)|exact HB.out)⟩⟩
      replace c22:=Bool.eq_false_iff.mpr c22;subst c22
      have H1:(Qd.j2 k2 false Zv false Qa Qf Qb)=some r:=by rw [if_neg (show ¬ (false=true) by decide)] at H;exact H
      clear H;have H:=H1;clear H1;have H':=Q0.mk H;clear H
      go_wp2
      go_meet
      case rel=>exact ⟨_,(false),(by first|rfl|(simp;done)|(simp [*];done)),H',⟨by have:=HJ1.out;have:=HK2.out;first|omega|exact Nat.le_refl _⟩,⟨by (with_reducible repeat (first|refine Q4 ?_ _|refine Q7 ?_|refine Q2 ?_ _));exact Y1.out⟩,⟨by repeat (first|(with_reducible first|exact HB.out|apply Q3|apply Q1|apply Q6|refine Q5 ?_ KU.out)|exact HB.out)⟩⟩
     case rest =>
      clear qvM;(try clear c2);(try clear p2);(try clear c3);(try clear c5);(try clear c5b0);(try clear c5b1);(try clear c7);(try clear c8);(try clear c8b0);(try clear c8b1);(try clear c8b2);(try clear c22);(try clear ZS);(try clear ZT);(try clear ZX);(try clear GX);(try clear GY);(try clear Kz);(try clear KA);(try clear KB);(try clear KC);(try clear JO);(try clear JP);(try clear JX);(try clear OR);(try clear OS);(try clear OT);(try clear GZ);(try clear K0);(try clear K1);(try clear XS);(try clear XT);(try clear XU);(try clear Uo);(try clear Up);(try clear Uq);(try clear ZU);(try clear ZV);(try clear ZY);(try clear K2);(try clear Ka);(try clear KE);(try clear KF);(try clear KG);(try clear KH);(try clear JQ);(try clear JU);(try clear JY);(try clear OU);(try clear OV);(try clear OW);(try clear Kb);(try clear Ke);(try clear Kf);(try clear qag);(try clear qah);(try clear qai);(try clear Ur);(try clear Us);(try clear Ut);(try clear p2);obtain ⟨kq,qjr,rfl,HA,qcL,Y1,HB⟩:=hcut
      cases kq with
      | zero=>exact absurd HA.out (by simp [Qd.j2])
      | succ qcu =>
       have H:=HA.out;clear HA;simp only [Qd.j2] at H
       by_cases c24:qjr=true
       ·
        subst c24
        have H1:(if 0≤Zv then (if Zv<(Qa.length:Int) then ((Qq.f qcu ((Qe Qa Zv).f0) ((Qe Qa Zv).f1) ((Qe Qa Zv).f2) ((Qe Qa Zv).f3) ((Qe Qa Zv).f4)).bind fun qk9=>(if qk9=true then (if Zv<(Qf.length:Int) then ((Qn.f (rd Qf Zv) 0 100).bind fun qgM=>(Qd.l0 qcu qgM (wrap64 (Zv+1)) Qa Qf Qb)) else (none)) else (Qd.l0 qcu false (wrap64 (Zv+1)) Qa Qf Qb))) else (none)) else (none))=some r:=by rw [if_pos rfl] at H;exact H
        clear H;have H:=H1;clear H1
        by_cases c25:0≤Zv
        ·
         rw [if_pos c25] at H;have c25b0:decide (0≤Zv)=true:=decide_eq_true c25;clear c25
         by_cases c26:Zv<(Qa.length:Int)
         ·
          rw [if_pos c26] at H;have c26b0:decide (Zv<(Qa.length:Int))=true:=decide_eq_true c26;clear c26;replace H:=Option.bind_eq_some_iff.mp H;obtain ⟨qk9,qjH,H⟩:=H;replace H:(if qk9=true then (if Zv<(Qf.length:Int) then ((Qn.f (rd Qf Zv) 0 100).bind fun qgM=>(Qd.l0 qcu qgM (wrap64 (Zv+1)) Qa Qf Qb)) else (none)) else (Qd.l0 qcu false (wrap64 (Zv+1)) Qa Qf Qb))=some r:=H;have A27:=Q0.mk qjH;clear qjH
          by_cases c28:qk9=true
          ·
           subst c28
           have H1:(if Zv<(Qf.length:Int) then ((Qn.f (rd Qf Zv) 0 100).bind fun qgM=>(Qd.l0 qcu qgM (wrap64 (Zv+1)) Qa Qf Qb)) else (none))=some r:=by rw [if_pos rfl] at H;exact H
           clear H;have H:=H1;clear H1
           by_cases c29:Zv<(Qf.length:Int)
           ·
            rw [if_pos c29] at H;have c29b0:decide (Zv<(Qf.length:Int))=true:=decide_eq_true c29;clear c29;replace H:=Option.bind_eq_some_iff.mp H;obtain ⟨qgM,qpp,H⟩:=H;replace H:(Qd.l0 qcu qgM (wrap64 (Zv+1)) Qa Qf Qb)=some r:=H;have A30:=Q0.mk qpp;clear qpp;have H':=Q0.mk H;clear H;have qh5:wc.cell? ⟨Zl,0,none⟩=some (.slice QD Qa.length Qu):=(Q9 Y1.out 0).trans rfl;have qh6:wc.cell? ⟨Zl,1,none⟩=some (.slice QB Qf.length Qv):=(Q9 Y1.out 1).trans rfl;have qh7:wc.cell? ⟨Zl,2,none⟩=some (.slice QK Qb.length Qw):=(Q9 Y1.out 2).trans rfl;have qiv:=Q8 Y1.out 0;have qiw:=Q8 Y1.out 1;have qix:=Q8 Y1.out 2;have qg1:0≤(Zv:Int):=of_decide_eq_true (by first|(with_reducible assumption)|assumption);have qg3:Zv<(Qa.length:Int):=of_decide_eq_true (by first|(with_reducible assumption)|assumption);obtain ⟨qnd,qlj,qlz,qlk,qlA,qll,qlB,qwl,Uu,Uv,Uw,Ux,Uy,qdH,qdw,qdI,qdx,qdJ,qdy⟩:=KR YV.out Zv qg1 qg3;cases qwl;replace Uu:=(HB.out.cell (World.block_lt_of_cell? w _ Uu)).trans Uu;replace Uv:=(HB.out.cell (World.block_lt_of_cell? w _ Uv)).trans Uv;replace Uw:=(HB.out.cell (World.block_lt_of_cell? w _ Uw)).trans Uw;replace Ux:=(HB.out.cell (World.block_lt_of_cell? w _ Ux)).trans Ux;replace Uy:=(HB.out.cell (World.block_lt_of_cell? w _ Uy)).trans Uy;have qhH:=Q0.mk qdw;have qhB:=Q0.mk qdH;clear qdw qdH;have qhI:=Q0.mk qdx;have qhC:=Q0.mk qdI;clear qdx qdI;have qhJ:=Q0.mk qdy;have qhD:=Q0.mk qdJ;clear qdy qdJ;replace qg1:=eq_true qg1;replace qg3:=eq_true qg3
            go_wp2_with (first|((with_reducible refine QG (f:=50) rfl ?_);refine YF (some 46) rfl rfl Try.func50 (by kernel_rfl) rfl #[.agg #[.slice qlj ((Qe Qa Zv).f0).length qlz,.slice qlk ((Qe Qa Zv).f1).length qlA,.slice qll ((Qe Qa Zv).f2).length qlB,.int .i64 ((Qe Qa Zv).f3),.int .i64 ((Qe Qa Zv).f4)]] rfl (by (try simp only [List.map_toArray,List.map_cons,List.map_nil]);first|done|rfl|(simp only [List.length_drop,List.length_take];rfl)) ?_;(with_reducible refine (Qq.calls qcu _ _ ((Qe Qa Zv).f0) _ _ ((Qe Qa Zv).f1) _ _ ((Qe Qa Zv).f2) ((Qe Qa Zv).f3) ((Qe Qa Zv).f4) true _ ?side1 ?side2 ?side3 ?side4 ?side5 ?side6 A27.out).mono ?_);(case side1=>repeat (first|exact (Kd.C_below qhH.out HB.out)|(with_reducible refine Kd.C_alloc ?_ _)|(with_reducible refine Kd.C_drewN ?_ _)|(with_reducible refine Kd.C_drew ?_)));(case side2=>exact qhB.out);(case side3=>repeat (first|exact (Kd.C_below qhI.out HB.out)|(with_reducible refine Kd.C_alloc ?_ _)|(with_reducible refine Kd.C_drewN ?_ _)|(with_reducible refine Kd.C_drew ?_)));(case side4=>exact qhC.out);(case side5=>repeat (first|exact (Kd.C_below qhJ.out HB.out)|(with_reducible refine Kd.C_alloc ?_ _)|(with_reducible refine Kd.C_drewN ?_ _)|(with_reducible refine Kd.C_drew ?_)));(case side6=>exact qhD.out);rintro e w32 ⟨rfl,hb⟩;refine ⟨_,rfl,?_⟩;have n0_:=Q0.mk (Qg (g:=Zl) (by (with_reducible repeat (first|refine Q4 ?_ _|refine Q7 ?_|refine Q2 ?_ _));exact Y1.out) hb);have n1_:=Q0.mk (Qk (by repeat (first|(with_reducible first|exact HB.out|apply Q3|apply Q1|apply Q6|refine Q5 ?_ KU.out)|exact HB.out)) hb);clear Y1 HB;have Y1:=n0_;have HB:=n1_;clear n0_ n1_;(try clear hb);(try clear hb2);(try clear hk);(try clear hi);have qh8:w32.cell? ⟨Zl,0,none⟩=some (.slice (some qnd) Qa.length Qu):=(Q9 Y1.out 0).trans rfl;have qh9:w32.cell? ⟨Zl,1,none⟩=some (.slice QB Qf.length Qv):=(Q9 Y1.out 1).trans rfl;have qia:w32.cell? ⟨Zl,2,none⟩=some (.slice QK Qb.length Qw):=(Q9 Y1.out 2).trans rfl;have qiy:=Q8 Y1.out 0;have qiz:=Q8 Y1.out 1;have qiA:=Q8 Y1.out 2;have qoV:0≤(Zv:Int):=of_decide_eq_true (by first|(with_reducible assumption)|assumption);have qoW:Zv<(Qf.length:Int):=of_decide_eq_true (by first|(with_reducible assumption)|assumption);obtain ⟨qIT,qG7,qbT⟩:=Kd.at_int Zj.out Zv qoV qoW;cases qG7;replace qbT:=(HB.out.cell (World.block_lt_of_cell? w _ qbT)).trans qbT;replace qoV:=eq_true qoV;replace qoW:=eq_true qoW)|(go_at_call 34;(with_reducible refine (Qn.calls (rd Qf Zv) 0 100 qgM _ A30.out).mono ?_);rintro e w' ⟨rfl,⟨nd,rfl⟩⟩))
            go_roundg qcu
            case measure=>have:=HJ1.out;have:=HK2.out;have:=qcL.out;omega
            case rel=>exact ⟨(qgM),(wrap64 (Zv+1)),(by first|rfl|(simp;done)|(simp [*];done)),(by first|rfl|(simp;done)|(simp [*];done)),H',⟨by have:=HJ1.out;have:=HK2.out;have:=qcL.out;omega⟩,⟨by (with_reducible repeat (first|refine Q4 ?_ _|refine Q7 ?_|refine Q2 ?_ _));exact Y1.out⟩,⟨by repeat (first|(with_reducible first|exact HB.out|apply Q3|apply Q1|apply Q6|refine Q5 ?_ KU.out)|exact HB.out)⟩⟩
           rw [if_neg c29] at H
           exact absurd H (by simp)
          replace c28:=Bool.eq_false_iff.mpr c28;subst c28
          have H1:(Qd.l0 qcu false (wrap64 (Zv+1)) Qa Qf Qb)=some r:=by rw [if_neg (show ¬ (false=true) by decide)] at H;exact H
          clear H;have H:=H1;clear H1;have H':=Q0.mk H;clear H;have qib:wc.cell? ⟨Zl,0,none⟩=some (.slice QD Qa.length Qu):=(Q9 Y1.out 0).trans rfl;have qic:wc.cell? ⟨Zl,1,none⟩=some (.slice QB Qf.length Qv):=(Q9 Y1.out 1).trans rfl;have qid:wc.cell? ⟨Zl,2,none⟩=some (.slice QK Qb.length Qw):=(Q9 Y1.out 2).trans rfl;have qiB:=Q8 Y1.out 0;have qiC:=Q8 Y1.out 1;have qiD:=Q8 Y1.out 2;have qg1:0≤(Zv:Int):=of_decide_eq_true (by first|(with_reducible assumption)|assumption);have qg3:Zv<(Qa.length:Int):=of_decide_eq_true (by first|(with_reducible assumption)|assumption);obtain ⟨qnd,qlj,qlz,qlk,qlA,qll,qlB,qwl,Uu,Uv,Uw,Ux,Uy,qdH,qdw,qdI,qdx,qdJ,qdy⟩:=KR YV.out Zv qg1 qg3;cases qwl;replace Uu:=(HB.out.cell (World.block_lt_of_cell? w _ Uu)).trans Uu;replace Uv:=(HB.out.cell (World.block_lt_of_cell? w _ Uv)).trans Uv;replace Uw:=(HB.out.cell (World.block_lt_of_cell? w _ Uw)).trans Uw;replace Ux:=(HB.out.cell (World.block_lt_of_cell? w _ Ux)).trans Ux;replace Uy:=(HB.out.cell (World.block_lt_of_cell? w _ Uy)).trans Uy;have qhH:=Q0.mk qdw;have qhB:=Q0.mk qdH;clear qdw qdH;have qhI:=Q0.mk qdx;have qhC:=Q0.mk qdI;clear qdx qdI;have qhJ:=Q0.mk qdy;have qhD:=Q0.mk qdJ;clear qdy qdJ;replace qg1:=eq_true qg1;replace qg3:=eq_true qg3
          go_wp2_with (first|((with_reducible refine QG (f:=50) rfl ?_);refine YF (some 46) rfl rfl Try.func50 (by kernel_rfl) rfl #[.agg #[.slice qlj ((Qe Qa Zv).f0).length qlz,.slice qlk ((Qe Qa Zv).f1).length qlA,.slice qll ((Qe Qa Zv).f2).length qlB,.int .i64 ((Qe Qa Zv).f3),.int .i64 ((Qe Qa Zv).f4)]] rfl (by (try simp only [List.map_toArray,List.map_cons,List.map_nil]);first|done|rfl|(simp only [List.length_drop,List.length_take];rfl)) ?_;(with_reducible refine (Qq.calls qcu _ _ ((Qe Qa Zv).f0) _ _ ((Qe Qa Zv).f1) _ _ ((Qe Qa Zv).f2) ((Qe Qa Zv).f3) ((Qe Qa Zv).f4) false _ ?side1 ?side2 ?side3 ?side4 ?side5 ?side6 A27.out).mono ?_);(case side1=>repeat (first|exact (Kd.C_below qhH.out HB.out)|(with_reducible refine Kd.C_alloc ?_ _)|(with_reducible refine Kd.C_drewN ?_ _)|(with_reducible refine Kd.C_drew ?_)));(case side2=>exact qhB.out);(case side3=>repeat (first|exact (Kd.C_below qhI.out HB.out)|(with_reducible refine Kd.C_alloc ?_ _)|(with_reducible refine Kd.C_drewN ?_ _)|(with_reducible refine Kd.C_drew ?_)));(case side4=>exact qhC.out);(case side5=>repeat (first|exact (Kd.C_below qhJ.out HB.out)|(with_reducible refine Kd.C_alloc ?_ _)|(with_reducible refine Kd.C_drewN ?_ _)|(with_reducible refine Kd.C_drew ?_)));(case side6=>exact qhD.out);rintro e w35 ⟨rfl,hb⟩;refine ⟨_,rfl,?_⟩;have n0_:=Q0.mk (Qg (g:=Zl) (by (with_reducible repeat (first|refine Q4 ?_ _|refine Q7 ?_|refine Q2 ?_ _));exact Y1.out) hb);have n1_:=Q0.mk (Qk (by repeat (first|(with_reducible first|exact HB.out|apply Q3|apply Q1|apply Q6|refine Q5 ?_ KU.out)|exact HB.out)) hb);clear Y1 HB;have Y1:=n0_;have HB:=n1_;clear n0_ n1_;(try clear hb);(try clear hb2);(try clear hk);(try clear hi)))
          go_roundg qcu
          case measure=>have:=HJ1.out;have:=HK2.out;have:=qcL.out;omega
          case rel=>exact ⟨(false),(wrap64 (Zv+1)),(by first|rfl|(simp;done)|(simp [*];done)),(by first|rfl|(simp;done)|(simp [*];done)),H',⟨by have:=HJ1.out;have:=HK2.out;have:=qcL.out;omega⟩,⟨by (with_reducible repeat (first|refine Q4 ?_ _|refine Q7 ?_|refine Q2 ?_ _));exact Y1.out⟩,⟨by repeat (first|(with_reducible first|exact HB.out|apply Q3|apply Q1|apply Q6|refine Q5 ?_ KU.out)|exact HB.out)⟩⟩
         rw [if_neg c26] at H
         exact absurd H (by simp)
        rw [if_neg c25] at H
        exact absurd H (by simp)
       replace c24:=Bool.eq_false_iff.mpr c24;subst c24
       have H1:(Qd.l1 qcu qmH 0 Qa Qf Qb)=some r:=by rw [if_neg (show ¬ (false=true) by decide)] at H;exact H
       clear H;have H:=H1;clear H1;have H':=Q0.mk H;clear H
       go_wp2
       go_loopg [3,5] qcu (fun kq v3 v5 w' => ∃ (qpf:Bool) (Jj:Int),v3 = .bool qpf∧v5 = .int .i64 Jj∧Q0 (Qd.l1 kq qpf Jj Qa Qf Qb=some r)∧Q0 (kq≤qcu)∧Q0 (w'.heap[Zl]? = some (.cells #[(.slice QD Qa.length Qu),(.slice QB Qf.length Qv),(.slice QK Qb.length Qw)] 47 (0,0)))∧Q0 (Below w.heap.size w w'))
       case atStart=>exact ⟨(qmH),(0),(by first|rfl|(simp;done)|(simp [*];done)),(by first|rfl|(simp;done)|(simp [*];done)),H',⟨Nat.le_refl _⟩,⟨by (with_reducible repeat (first|refine Q4 ?_ _|refine Q7 ?_|refine Q2 ?_ _));exact Y1.out⟩,⟨by repeat (first|(with_reducible first|exact HB.out|apply Q3|apply Q1|apply Q6|refine Q5 ?_ KU.out)|exact HB.out)⟩⟩
       case round =>
        clear H';(try clear c2);(try clear p2);(try clear c3);(try clear c5);(try clear c5b0);(try clear c5b1);(try clear p6);(try clear c7);(try clear c8);(try clear c8b0);(try clear c8b1);(try clear c8b2);(try clear c9);(try clear p9);(try clear q9);(try clear hx9);(try clear c22);(try clear c24);(try clear c25);(try clear c25b0);(try clear c26);(try clear c26b0);(try clear c28);(try clear c29);(try clear c29b0);(try clear c30);(try clear ZS);(try clear ZT);(try clear ZX);(try clear GX);(try clear GY);(try clear Kz);(try clear KA);(try clear KB);(try clear KC);(try clear JO);(try clear JP);(try clear JX);(try clear OR);(try clear OS);(try clear OT);(try clear GZ);(try clear K0);(try clear K1);(try clear XS);(try clear XT);(try clear XU);(try clear Uo);(try clear Up);(try clear Uq);(try clear qh5);(try clear qh6);(try clear qh7);(try clear qh8);(try clear qh9);(try clear qia);(try clear qib);(try clear qic);(try clear qid);(try clear ZU);(try clear ZV);(try clear ZY);(try clear K2);(try clear Ka);(try clear KE);(try clear KF);(try clear KG);(try clear KH);(try clear JQ);(try clear JU);(try clear JY);(try clear OU);(try clear OV);(try clear OW);(try clear Kb);(try clear Ke);(try clear Kf);(try clear qag);(try clear qah);(try clear qai);(try clear Ur);(try clear Us);(try clear Ut);(try clear qiv);(try clear qiw);(try clear qix);(try clear qiy);(try clear qiz);(try clear qiA);(try clear qiB);(try clear qiC);(try clear qiD);(try clear Uu);(try clear Uv);(try clear Uw);(try clear Ux);(try clear Uy);(try clear qbT);(try clear p2);(try clear qg1);(try clear qoV);(try clear qg3);(try clear qoW);obtain ⟨qpf,Jj,rfl,rfl,HA,HK4,Y1,HB⟩:=hrel
        cases gk with
        | zero=>exact absurd HA.out (by simp [Qd.l1])
        | succ k4 =>
         have H:=HA.out;clear HA;simp only [Qd.l1] at H;have qvP:=Q0.mk H;clear H
         go_upto_region 7 with (fail)
         go_cut [62] (fun v62 wc => ∃ (kq:Nat) (qjw:Bool),v62 = .bool qjw∧Q0 (Qd.j4 kq qpf Jj qjw Qa Qf Qb=some r)∧Q0 (kq≤k4)∧Q0 (wc.heap[Zl]? = some (.cells #[(.slice QD Qa.length Qu),(.slice QB Qf.length Qv),(.slice QK Qb.length Qw)] 47 (0,0)))∧Q0 (Below w.heap.size w wc))
         case first =>
          have H:=qvP.out;clear qvP
          by_cases c37:qpf=true
          ·
           subst c37
           have H1:(Qd.j4 k4 true Jj (decide (Jj<(Qb.length:Int))) Qa Qf Qb)=some r:=by rw [if_pos rfl] at H;exact H
           clear H;have H:=H1;clear H1;have H':=Q0.mk H;clear H;have qie:wr.cell? ⟨Zl,0,none⟩=some (.slice QD Qa.length Qu):=(Q9 Y1.out 0).trans rfl;have qnk:wr.cell? ⟨Zl,1,none⟩=some (.slice QB Qf.length Qv):=(Q9 Y1.out 1).trans rfl;have qnl:wr.cell? ⟨Zl,2,none⟩=some (.slice QK Qb.length Qw):=(Q9 Y1.out 2).trans rfl;have qiE:=Q8 Y1.out 0;have qnp:=Q8 Y1.out 1;have qnq:=Q8 Y1.out 2
           go_wp2
           go_meet
           case rel=>exact ⟨_,(decide (Jj<(Qb.length:Int))),(by first|rfl|(simp;done)|(simp [*];done)),H',⟨by have:=HJ1.out;have:=HK2.out;have:=qcL.out;have:=HK4.out;first|omega|exact Nat.le_refl _⟩,⟨by (with_reducible repeat (first|refine Q4 ?_ _|refine Q7 ?_|refine Q2 ?_ _));exact Y1.out⟩,⟨by repeat (first|(with_reducible first|exact HB.out|apply Q3|apply Q1|apply Q6|refine Q5 ?_ KU.out)|exact HB.out)⟩⟩
          replace c37:=Bool.eq_false_iff.mpr c37;subst c37
          have H1:(Qd.j4 k4 false Jj false Qa Qf Qb)=some r:=by rw [if_neg (show ¬ (false=true) by decide)] at H;exact H
          clear H;have H:=H1;clear H1;have H':=Q0.mk H;clear H
          go_wp2
          go_meet
          case rel=>exact ⟨_,(false),(by first|rfl|(simp;done)|(simp [*];done)),H',⟨by have:=HJ1.out;have:=HK2.out;have:=qcL.out;have:=HK4.out;first|omega|exact Nat.le_refl _⟩,⟨by (with_reducible repeat (first|refine Q4 ?_ _|refine Q7 ?_|refine Q2 ?_ _));exact Y1.out⟩,⟨by repeat (first|(with_reducible first|exact HB.out|apply Q3|apply Q1|apply Q6|refine Q5 ?_ KU.out)|exact HB.out)⟩⟩
         case rest =>
          clear qvP;(try clear c2);(try clear p2);(try clear c3);(try clear c5);(try clear c5b0);(try clear c5b1);(try clear p6);(try clear c7);(try clear c8);(try clear c8b0);(try clear c8b1);(try clear c8b2);(try clear c9);(try clear p9);(try clear q9);(try clear hx9);(try clear c22);(try clear c24);(try clear c25);(try clear c25b0);(try clear c26);(try clear c26b0);(try clear c28);(try clear c29);(try clear c29b0);(try clear c30);(try clear c37);(try clear ZS);(try clear ZT);(try clear ZX);(try clear GX);(try clear GY);(try clear Kz);(try clear KA);(try clear KB);(try clear KC);(try clear JO);(try clear JP);(try clear JX);(try clear OR);(try clear OS);(try clear OT);(try clear GZ);(try clear K0);(try clear K1);(try clear XS);(try clear XT);(try clear XU);(try clear Uo);(try clear Up);(try clear Uq);(try clear qh5);(try clear qh6);(try clear qh7);(try clear qh8);(try clear qh9);(try clear qia);(try clear qib);(try clear qic);(try clear qid);(try clear qie);(try clear qnk);(try clear qnl);(try clear ZU);(try clear ZV);(try clear ZY);(try clear K2);(try clear Ka);(try clear KE);(try clear KF);(try clear KG);(try clear KH);(try clear JQ);(try clear JU);(try clear JY);(try clear OU);(try clear OV);(try clear OW);(try clear Kb);(try clear Ke);(try clear Kf);(try clear qag);(try clear qah);(try clear qai);(try clear Ur);(try clear Us);(try clear Ut);(try clear qiv);(try clear qiw);(try clear qix);(try clear qiy);(try clear qiz);(try clear qiA);(try clear qiB);(try clear qiC);(try clear qiD);(try clear qiE);(try clear qnp);(try clear qnq);(try clear Uu);(try clear Uv);(try clear Uw);(try clear Ux);(try clear Uy);(try clear qbT);(try clear p2);(try clear p6);(try clear p9);(try clear qg1);(try clear qoV);(try clear q9);(try clear qg3);(try clear qoW);obtain ⟨kq,qjw,rfl,HA,qjO,Y1,HB⟩:=hcut
          cases kq with
          | zero=>exact absurd HA.out (by simp [Qd.j4])
          | succ qwI =>
           have H:=HA.out;clear HA;simp only [Qd.j4] at H
           by_cases c39:qjw=true
           ·
            subst c39
            have H1:(if 0≤Jj then (if Jj<(Qb.length:Int) then (Qd.l2 qwI (((Qs Qb Jj).length:Int)==(Qa.length:Int)) Jj 0 Qa Qf Qb) else (none)) else (none))=some r:=by rw [if_pos rfl] at H;exact H
            clear H;have H:=H1;clear H1
            by_cases c40:0≤Jj
            ·
             rw [if_pos c40] at H;have c40b0:decide (0≤Jj)=true:=decide_eq_true c40;clear c40
             by_cases c41:Jj<(Qb.length:Int)
             ·
              rw [if_pos c41] at H;have c41b0:decide (Jj<(Qb.length:Int))=true:=decide_eq_true c41;clear c41;have H':=Q0.mk H;clear H
              try go_wp2
              have n0_:=Q0.mk (Q7 Y1.out);have n1_:=Q0.mk (Q6 HB.out);clear Y1 HB;have Y1:=n0_;have HB:=n1_;clear n0_ n1_;have qt9:0≤(Jj:Int):=of_decide_eq_true (by first|(with_reducible assumption)|assumption);have qui:Jj<(Qb.length:Int):=of_decide_eq_true (by first|(with_reducible assumption)|assumption);obtain ⟨UU,qvz,qv4,qG8,qbU,qnW,qnD⟩:=WY Z5.out Jj qt9 qui;have qn6:=qbU;cases qG8;replace qbU:=(HB.out.cell (World.block_lt_of_cell? w _ qbU)).trans qbU;have qsd:=Q0.mk qnD;have qBf:=Q0.mk qnW;clear qnD qnW;replace qt9:=eq_true qt9;replace qui:=eq_true qui;refine qaJ (n:=11) (S:=fun w'=>w'.cell? ⟨Zl,0,none⟩=some (.slice QD Qa.length Qu)∧w'.cell? ⟨Zl,1,none⟩=some (.slice QB Qf.length Qv)∧w'.cell? ⟨Zl,2,none⟩=some (.slice (some UU) Qb.length Qw)∧w'.cell? (UU.add (Jj).toNat)=some (.slice qvz (Qs Qb Jj).length qv4)) (ds:=[]) #[false,false,false,false,false,false,false,false,false,false,false] (by kernel_rfl) rfl rfl ⟨(Q9 Y1.out 0).trans rfl,(Q9 Y1.out 1).trans rfl,(Q9 Y1.out 2).trans rfl,((HB.out.cell (World.block_lt_of_cell? w _ qn6)).trans qn6)⟩ (fun hHeld => ?_);refine OM Qd.tab9 Qd.bits9 (fun HT_ HW_ => ?_)
              generalize wc.drew=w42 at Y1 HB qsd qbU hHeld ⊢
              refine Yu (i:=0) (N:=some 65) (v:=?_) (a':=?_) #[true,false,false,false,false,false,false,false,false,false,false] rfl rfl (Y8 HT_.out (by kernel_rfl)) (fun _ _ _ h=>h) (Or.inl ⟨by rfl,?_⟩) ?_ ?_
              rotate_left
              ·
               intro w'
               go_simp
               with_reducible rfl
              rotate_left
              ·
               simp only [Act.put,List.setIfInBounds_toArray,List.set_cons_zero,List.set_cons_succ,QL,QO]
               rfl
              refine Yu (i:=2) (N:=some 67) (v:=?_) (a':=?_) #[true,false,true,false,false,false,false,false,false,false,false] rfl rfl (Y8 HT_.out (by kernel_rfl)) (fun _ _ _ h=>h) (Or.inl ⟨by rfl,?_⟩) ?_ ?_
              rotate_left
              ·
               intro w'
               go_simp
               with_reducible rfl
              rotate_left
              ·
               simp only [Act.put,List.setIfInBounds_toArray,List.set_cons_zero,List.set_cons_succ,QL,QO]
               rfl
              refine Yu (i:=6) (N:=some 71) (v:=?_) (a':=?_) #[true,false,true,false,false,false,true,false,false,false,false] rfl rfl (Y8 HT_.out (by kernel_rfl)) (fun _ _ _ h=>h) (Or.inl ⟨by rfl,?_⟩) ?_ ?_
              rotate_left
              ·
               intro w'
               go_simp
               with_reducible rfl
              rotate_left
              ·
               simp only [Act.put,List.setIfInBounds_toArray,List.set_cons_zero,List.set_cons_succ,QL,QO]
               rfl
              refine Gp (i:=1) (N:=some 66) (v:=?_) (a':=?_) #[true,true,true,false,false,false,true,false,false,false,false] rfl rfl (Zg HT_.out HW_.out (by kernel_rfl)) (fun _ _ _ h=>h) (Or.inl ⟨by rfl,?_⟩) hHeld ?_ ?_
              rotate_left
              ·
               rintro w' ⟨s0,s1,s2,s3⟩
               go_simp
               with_reducible rfl
              rotate_left
              ·
               simp only [Act.put,List.setIfInBounds_toArray,List.set_cons_zero,List.set_cons_succ,QL,QO]
               rfl
              refine Yu (i:=3) (N:=some 68) (v:=?_) (a':=?_) #[true,true,true,true,false,false,true,false,false,false,false] rfl rfl (Y8 HT_.out (by kernel_rfl)) (fun _ _ _ h=>h) (Or.inl ⟨by rfl,?_⟩) ?_ ?_
              rotate_left
              ·
               intro w'
               go_simp
               with_reducible rfl
              rotate_left
              ·
               simp only [Act.put,List.setIfInBounds_toArray,List.set_cons_zero,List.set_cons_succ,QL,QO]
               rfl
              refine Gp (i:=4) (N:=some 69) (v:=?_) (a':=?_) #[true,true,true,true,true,false,true,false,false,false,false] rfl rfl (Zg HT_.out HW_.out (by kernel_rfl)) (fun _ _ _ h=>h) (Or.inl ⟨by rfl,?_⟩) hHeld ?_ ?_
              rotate_left
              ·
               rintro w' ⟨s0,s1,s2,s3⟩
               go_simp
               with_reducible rfl
              rotate_left
              ·
               simp only [Act.put,List.setIfInBounds_toArray,List.set_cons_zero,List.set_cons_succ,QL,QO]
               rfl
              refine Yu (i:=5) (N:=some 70) (v:=?_) (a':=?_) #[true,true,true,true,true,true,true,false,false,false,false] rfl rfl (Y8 HT_.out (by kernel_rfl)) (fun _ _ _ h=>h) (Or.inl ⟨by rfl,?_⟩) ?_ ?_
              rotate_left
              ·
               intro w'
               go_simp
               with_reducible rfl
              rotate_left
              ·
               simp only [Act.put,List.setIfInBounds_toArray,List.set_cons_zero,List.set_cons_succ,QL,QO]
               rfl
              refine Gp (i:=7) (N:=some 72) (v:=?_) (a':=?_) #[true,true,true,true,true,true,true,true,false,false,false] rfl rfl (Zg HT_.out HW_.out (by kernel_rfl)) (fun _ _ _ h=>h) (Or.inl ⟨by rfl,?_⟩) hHeld ?_ ?_
              rotate_left
              ·
               rintro w' ⟨s0,s1,s2,s3⟩
               go_simp
               with_reducible rfl
              rotate_left
              ·
               simp only [Act.put,List.setIfInBounds_toArray,List.set_cons_zero,List.set_cons_succ,QL,QO]
               rfl
              refine Yu (i:=8) (N:=some 73) (v:=?_) (a':=?_) #[true,true,true,true,true,true,true,true,true,false,false] rfl rfl (Y8 HT_.out (by kernel_rfl)) (fun _ _ _ h=>h) (Or.inl ⟨by rfl,?_⟩) ?_ ?_
              rotate_left
              ·
               intro w'
               go_simp
               with_reducible rfl
              rotate_left
              ·
               simp only [Act.put,List.setIfInBounds_toArray,List.set_cons_zero,List.set_cons_succ,QL,QO]
               rfl
              refine Yu (i:=9) (N:=some 74) (v:=?_) (a':=?_) #[true,true,true,true,true,true,true,true,true,true,false] rfl rfl (Y8 HT_.out (by kernel_rfl)) (fun _ _ _ h=>h) (Or.inl ⟨by rfl,?_⟩) ?_ ?_
              rotate_left
              ·
               intro w'
               go_simp
               with_reducible rfl
              rotate_left
              ·
               simp only [Act.put,List.setIfInBounds_toArray,List.set_cons_zero,List.set_cons_succ,QL,QO]
               rfl
              refine Yu (i:=10) (N:=some 3) (v:=?_) (a':=?_) #[true,true,true,true,true,true,true,true,true,true,true] rfl rfl (Y8 HT_.out (by kernel_rfl)) (fun _ _ _ h=>h) (Or.inl ⟨by rfl,?_⟩) ?_ ?_
              rotate_left
              ·
               intro w'
               go_simp
               with_reducible rfl
              rotate_left
              ·
               simp only [Act.put,List.setIfInBounds_toArray,List.set_cons_zero,List.set_cons_succ,QL,QO]
               rfl
              refine qcU (X1 HT_.out (by kernel_rfl)) ?_
              try go_wp2
              go_loopg [3,6] qwI (fun kq v3 v6 w' => ∃ (quy:Bool) (GM:Int),v3 = .bool quy∧v6 = .int .i64 GM∧Q0 (Qd.l2 kq quy Jj GM Qa Qf Qb=some r)∧Q0 (kq≤qwI)∧Q0 (w'.heap[Zl]? = some (.cells #[(.slice QD Qa.length Qu),(.slice QB Qf.length Qv),(.slice (some UU) Qb.length Qw)] 47 (0,0)))∧Q0 (Below w.heap.size w w'))
              case atStart=>exact ⟨((((Qs Qb Jj).length:Int)==(Qa.length:Int))),(0),(by first|rfl|(simp;done)|(simp [*];done)),(by first|rfl|(simp;done)|(simp [*];done)),H',⟨Nat.le_refl _⟩,⟨by (with_reducible repeat (first|refine Q4 ?_ _|refine Q7 ?_|refine Q2 ?_ _));exact Y1.out⟩,⟨by repeat (first|(with_reducible first|exact HB.out|apply Q3|apply Q1|apply Q6|refine Q5 ?_ KU.out)|exact HB.out)⟩⟩
              case round =>
               clear H';(try clear c2);(try clear p2);(try clear c3);(try clear c4);(try clear c5);(try clear c5b0);(try clear c5b1);(try clear p6);(try clear c7);(try clear c8);(try clear c8b0);(try clear c8b1);(try clear c8b2);(try clear c9);(try clear p9);(try clear q9);(try clear hx9);(try clear c22);(try clear c24);(try clear c25);(try clear c25b0);(try clear c26);(try clear c26b0);(try clear c28);(try clear c29);(try clear c29b0);(try clear c30);(try clear c37);(try clear c39);(try clear c40);(try clear c40b0);(try clear c41);(try clear c41b0);(try clear ZS);(try clear ZT);(try clear ZX);(try clear GX);(try clear GY);(try clear Kz);(try clear KA);(try clear KB);(try clear KC);(try clear JO);(try clear JP);(try clear JX);(try clear OR);(try clear OS);(try clear OT);(try clear GZ);(try clear K0);(try clear K1);(try clear XS);(try clear XT);(try clear XU);(try clear Uo);(try clear Up);(try clear Uq);(try clear qh5);(try clear qh6);(try clear qh7);(try clear qh8);(try clear qh9);(try clear qia);(try clear qib);(try clear qic);(try clear qid);(try clear qie);(try clear qnk);(try clear qnl);(try clear ZU);(try clear ZV);(try clear ZY);(try clear K2);(try clear Ka);(try clear KE);(try clear KF);(try clear KG);(try clear KH);(try clear JQ);(try clear JU);(try clear JY);(try clear OU);(try clear OV);(try clear OW);(try clear Kb);(try clear Ke);(try clear Kf);(try clear qag);(try clear qah);(try clear qai);(try clear Ur);(try clear Us);(try clear Ut);(try clear qiv);(try clear qiw);(try clear qix);(try clear qiy);(try clear qiz);(try clear qiA);(try clear qiB);(try clear qiC);(try clear qiD);(try clear qiE);(try clear qnp);(try clear qnq);(try clear Uu);(try clear Uv);(try clear Uw);(try clear Ux);(try clear Uy);(try clear qbT);(try clear qbU);(try clear p2);(try clear p6);(try clear p9);(try clear qg1);(try clear qoV);(try clear qt9);(try clear q9);(try clear qg3);(try clear qoW);(try clear qui);obtain ⟨quy,GM,rfl,rfl,HA,HK6,Y1,HB⟩:=hrel
               cases gk with
               | zero=>exact absurd HA.out (by simp [Qd.l2])
               | succ k6 =>
                have H:=HA.out;clear HA;simp only [Qd.l2] at H
                by_cases c43:quy=true
                ·
                 subst c43
                 have H1:(if GM<(Qa.length:Int) then (if 0≤Jj then (if Jj<(Qb.length:Int) then (if 0≤GM then (if GM<((Qs Qb Jj).length:Int) then ((Qn.f ((QC (Qs Qb Jj) GM).length:Int) 1 10).bind fun qpd=>(if qpd=true then (if 0<(Qb.length:Int) then (if 0<((Qs Qb 0).length:Int) then (Qd.l2 k6 (((QC (Qs Qb Jj) GM).length:Int)==((QC (Qs Qb 0) 0).length:Int)) Jj (wrap64 (GM+1)) Qa Qf Qb) else (none)) else (none)) else (Qd.l2 k6 false Jj (wrap64 (GM+1)) Qa Qf Qb))) else (none)) else (none)) else (none)) else (none)) else (Qd.l1 k6 true (wrap64 (Jj+1)) Qa Qf Qb))=some r:=by rw [if_pos rfl] at H;exact H
                 clear H;have H:=H1;clear H1
                 by_cases c44:GM<(Qa.length:Int)
                 ·
                  rw [if_pos c44] at H;have c44b0:decide (GM<(Qa.length:Int))=true:=decide_eq_true c44;clear c44
                  by_cases c45:0≤Jj
                  ·
                   rw [if_pos c45] at H;have c45b0:decide (0≤Jj)=true:=decide_eq_true c45;clear c45
                   by_cases c46:Jj<(Qb.length:Int)
                   ·
                    rw [if_pos c46] at H;have c46b0:decide (Jj<(Qb.length:Int))=true:=decide_eq_true c46;clear c46
                    by_cases c47:0≤GM
                    ·
                     rw [if_pos c47] at H;have c47b0:decide (0≤GM)=true:=decide_eq_true c47;clear c47
                     by_cases c48:GM<((Qs Qb Jj).length:Int)
                     ·
                      rw [if_pos c48] at H;have c48b0:decide (GM<((Qs Qb Jj).length:Int))=true:=decide_eq_true c48;clear c48;replace H:=Option.bind_eq_some_iff.mp H;obtain ⟨qpd,qxA,H⟩:=H;replace H:(if qpd=true then (if 0<(Qb.length:Int) then (if 0<((Qs Qb 0).length:Int) then (Qd.l2 k6 (((QC (Qs Qb Jj) GM).length:Int)==((QC (Qs Qb 0) 0).length:Int)) Jj (wrap64 (GM+1)) Qa Qf Qb) else (none)) else (none)) else (Qd.l2 k6 false Jj (wrap64 (GM+1)) Qa Qf Qb))=some r:=H;have A49:=Q0.mk qxA;clear qxA
                      by_cases c50:qpd=true
                      ·
                       subst c50
                       have H1:(if 0<(Qb.length:Int) then (if 0<((Qs Qb 0).length:Int) then (Qd.l2 k6 (((QC (Qs Qb Jj) GM).length:Int)==((QC (Qs Qb 0) 0).length:Int)) Jj (wrap64 (GM+1)) Qa Qf Qb) else (none)) else (none))=some r:=by rw [if_pos rfl] at H;exact H
                       clear H;have H:=H1;clear H1
                       by_cases c51:0<(Qb.length:Int)
                       ·
                        rw [if_pos c51] at H;have c51b0:decide (0<(Qb.length:Int))=true:=decide_eq_true c51;have c51b1:decide (0<Qb.length)=true:=decide_eq_true (by omega);clear c51
                        by_cases c52:0<((Qs Qb 0).length:Int)
                        ·
                         rw [if_pos c52] at H;have c52b0:decide (0<((Qs Qb 0).length:Int))=true:=decide_eq_true c52;have c52b1:decide (0<(Qs Qb 0).length)=true:=decide_eq_true (by omega);clear c52;have H':=Q0.mk H;clear H;have qB3:wr.cell? ⟨Zl,0,none⟩=some (.slice QD Qa.length Qu):=(Q9 Y1.out 0).trans rfl;have qB4:wr.cell? ⟨Zl,1,none⟩=some (.slice QB Qf.length Qv):=(Q9 Y1.out 1).trans rfl;have qB5:wr.cell? ⟨Zl,2,none⟩=some (.slice (some UU) Qb.length Qw):=(Q9 Y1.out 2).trans rfl;have qDT:=Q8 Y1.out 0;have qDU:=Q8 Y1.out 1;have qDV:=Q8 Y1.out 2
                         try go_wp2
                         have n0_:=Q0.mk (Q7 Y1.out);have n1_:=Q0.mk (Q6 HB.out);clear Y1 HB;have Y1:=n0_;have HB:=n1_;clear n0_ n1_;have qma:0≤(Jj:Int):=of_decide_eq_true (by first|(with_reducible assumption)|assumption);have qmq:Jj<(Qb.length:Int):=of_decide_eq_true (by first|(with_reducible assumption)|assumption);obtain ⟨qp9,qvA,qhQ,qwm,Ot,qdK,qdz⟩:=WY Z5.out Jj qma qmq;have Wk:=Ot;obtain rfl:UU=qp9:=(by injection qwm);replace Ot:=(HB.out.cell (World.block_lt_of_cell? w _ Ot)).trans Ot;have qcN:=Q0.mk qdz;have qr3:=Q0.mk qdK;clear qdz qdK;replace qma:=eq_true qma;replace qmq:=eq_true qmq;have qmb:0≤(GM:Int):=of_decide_eq_true (by first|(with_reducible assumption)|assumption);have qmr:GM<((Qs Qb Jj).length:Int):=of_decide_eq_true (by first|(with_reducible assumption)|assumption);obtain ⟨qge,qlm,qlC,qwn,U2,qdL,qdA⟩:=WX qcN.out GM qmb qmr;have Wl:=U2;cases qwn;replace U2:=(HB.out.cell (World.block_lt_of_cell? w _ U2)).trans U2;have qhK:=Q0.mk qdA;have qr4:=Q0.mk qdL;clear qdA qdL;replace qmb:=eq_true qmb;replace qmr:=eq_true qmr;have qwR:0≤(Jj:Int):=of_decide_eq_true (by first|(with_reducible assumption)|assumption);have qw5:Jj<(Qb.length:Int):=of_decide_eq_true (by first|(with_reducible assumption)|assumption);obtain ⟨qyo,qGH,qGV,qG9,qbV,qnX,qnE⟩:=WY Z5.out Jj qwR qw5;have qfE:=qbV;obtain rfl:UU=qyo:=(by injection qG9);replace qbV:=(HB.out.cell (World.block_lt_of_cell? w _ qbV)).trans qbV;have qm4:=Q0.mk qnE;have qBg:=Q0.mk qnX;clear qnE qnX;replace qwR:=eq_true qwR;replace qw5:=eq_true qw5;have ea_:=Option.some.inj (Ot.symm.trans qbV)
                         injection ea_ with ea_ en_ ec_
                         subst ea_;subst ec_;clear en_;have qwS:0≤(GM:Int):=of_decide_eq_true (by first|(with_reducible assumption)|assumption);have qw6:GM<((Qs Qb Jj).length:Int):=of_decide_eq_true (by first|(with_reducible assumption)|assumption);obtain ⟨qIU,qvB,qv5,qHa,qdR,qnY,qnF⟩:=WX qm4.out GM qwS qw6;have qfF:=qdR;cases qHa;replace qdR:=(HB.out.cell (World.block_lt_of_cell? w _ qdR)).trans qdR;have qse:=Q0.mk qnF;have qBh:=Q0.mk qnY;clear qnF qnY;replace qwS:=eq_true qwS;replace qw6:=eq_true qw6;have qwT:0≤(0:Int):=(by omega);have qw7:0<(Qb.length:Int):=of_decide_eq_true (by first|(with_reducible assumption)|assumption);obtain ⟨qyp,qGI,qv6,qHb,qaD,qnZ,qnG⟩:=WY Z5.out 0 qwT qw7;have qas:=qaD
                         (try rw [show ((0:Int)).toNat=0 from rfl] at qas)
                         (try rw [show 0*1=0 from rfl] at qas)
                         (try rw [Addr.add_zero'] at qas)
                         obtain rfl:UU=qyp:=(by injection qHb);have qKw:(0<Qb.length)=True:=eq_true (by omega)
                         (try rw [show ((0:Int)).toNat=0 from rfl] at qaD)
                         (try rw [Addr.add_zero'] at qaD)
                         replace qaD:=(HB.out.cell (World.block_lt_of_cell? w _ qaD)).trans qaD;have qm5:=Q0.mk qnG;have qBi:=Q0.mk qnZ;clear qnG qnZ;replace qwT:=eq_true qwT;replace qw7:=eq_true qw7;have qwU:0≤(0:Int):=(by omega);have qw8:0<((Qs Qb 0).length:Int):=of_decide_eq_true (by first|(with_reducible assumption)|assumption);obtain ⟨qve,qvC,qv7,qHc,qaE,qn0,qnH⟩:=WX qm5.out 0 qwU qw8;have qat:=qaE
                         (try rw [show ((0:Int)).toNat=0 from rfl] at qat)
                         (try rw [show 0*1=0 from rfl] at qat)
                         (try rw [Addr.add_zero'] at qat)
                         cases qHc;have qKx:(0<(Qs Qb 0).length)=True:=eq_true (by omega)
                         (try rw [show ((0:Int)).toNat=0 from rfl] at qaE)
                         (try rw [Addr.add_zero'] at qaE)
                         replace qaE:=(HB.out.cell (World.block_lt_of_cell? w _ qaE)).trans qaE;have qsf:=Q0.mk qnH;have qBj:=Q0.mk qn0;clear qnH qn0;replace qwU:=eq_true qwU;replace qw8:=eq_true qw8;refine qaJ (n:=30) (S:=fun w'=>w'.cell? ⟨Zl,0,none⟩=some (.slice QD Qa.length Qu)∧w'.cell? ⟨Zl,1,none⟩=some (.slice QB Qf.length Qv)∧w'.cell? ⟨Zl,2,none⟩=some (.slice (some UU) Qb.length Qw)∧w'.cell? (UU.add (Jj).toNat)=some (.slice (some qge) (Qs Qb Jj).length qhQ)∧w'.cell? (qge.add (GM).toNat)=some (.slice qlm (QC (Qs Qb Jj) GM).length qlC)∧w'.cell? (UU.add (Jj).toNat)=some (.slice (some qge) (Qs Qb Jj).length qhQ)∧w'.cell? (qge.add (GM).toNat)=some (.slice qvB (QC (Qs Qb Jj) GM).length qv5)∧w'.cell? UU=some (.slice (some qve) (Qs Qb 0).length qv6)∧w'.cell? qve=some (.slice qvC (QC (Qs Qb 0) 0).length qv7)) (ds:=[]) #[false,false,false,false,false,false,false,false,false,false,false,false,false,false,false,false,false,false,false,false,false,false,false,false,false,false,false,false,false,false] (by kernel_rfl) rfl rfl ⟨(Q9 Y1.out 0).trans rfl,(Q9 Y1.out 1).trans rfl,(Q9 Y1.out 2).trans rfl,((HB.out.cell (World.block_lt_of_cell? w _ Wk)).trans Wk),((HB.out.cell (World.block_lt_of_cell? w _ Wl)).trans Wl),((HB.out.cell (World.block_lt_of_cell? w _ qfE)).trans qfE),((HB.out.cell (World.block_lt_of_cell? w _ qfF)).trans qfF),((HB.out.cell (World.block_lt_of_cell? w _ qas)).trans qas),((HB.out.cell (World.block_lt_of_cell? w _ qat)).trans qat)⟩ (fun hHeld => ?_);refine OM Qd.tab13 Qd.bits13 (fun HT_ HW_ => ?_)
                         generalize wr.drew=w54 at Y1 HB qcN qhK qm4 qse qm5 qsf Ot U2 qbV qdR qaD qaE hHeld ⊢
                         refine Yu (i:=0) (N:=some 85) (v:=?_) (a':=?_) #[true,false,false,false,false,false,false,false,false,false,false,false,false,false,false,false,false,false,false,false,false,false,false,false,false,false,false,false,false,false] rfl rfl (Y8 HT_.out (by kernel_rfl)) (fun _ _ _ h=>h) (Or.inl ⟨by rfl,?_⟩) ?_ ?_
                         rotate_left
                         ·
                          intro w'
                          go_simp
                          with_reducible rfl
                         rotate_left
                         ·
                          simp only [Act.put,List.setIfInBounds_toArray,List.set_cons_zero,List.set_cons_succ,QL,QO]
                          rfl
                         refine Yu (i:=2) (N:=some 87) (v:=?_) (a':=?_) #[true,false,true,false,false,false,false,false,false,false,false,false,false,false,false,false,false,false,false,false,false,false,false,false,false,false,false,false,false,false] rfl rfl (Y8 HT_.out (by kernel_rfl)) (fun _ _ _ h=>h) (Or.inl ⟨by rfl,?_⟩) ?_ ?_
                         rotate_left
                         ·
                          intro w'
                          go_simp
                          with_reducible rfl
                         rotate_left
                         ·
                          simp only [Act.put,List.setIfInBounds_toArray,List.set_cons_zero,List.set_cons_succ,QL,QO]
                          rfl
                         refine Yu (i:=5) (N:=some 90) (v:=?_) (a':=?_) #[true,false,true,false,false,true,false,false,false,false,false,false,false,false,false,false,false,false,false,false,false,false,false,false,false,false,false,false,false,false] rfl rfl (Y8 HT_.out (by kernel_rfl)) (fun _ _ _ h=>h) (Or.inl ⟨by rfl,?_⟩) ?_ ?_
                         rotate_left
                         ·
                          intro w'
                          go_simp
                          with_reducible rfl
                         rotate_left
                         ·
                          simp only [Act.put,List.setIfInBounds_toArray,List.set_cons_zero,List.set_cons_succ,QL,QO]
                          rfl
                         refine Gp (i:=1) (N:=some 86) (v:=?_) (a':=?_) #[true,true,true,false,false,true,false,false,false,false,false,false,false,false,false,false,false,false,false,false,false,false,false,false,false,false,false,false,false,false] rfl rfl (Zg HT_.out HW_.out (by kernel_rfl)) (fun _ _ _ h=>h) (Or.inl ⟨by rfl,?_⟩) hHeld ?_ ?_
                         rotate_left
                         ·
                          rintro w' ⟨s0,s1,s2,s3,s4,s5,s6,s7,s8⟩
                          go_simp
                          with_reducible rfl
                         rotate_left
                         ·
                          simp only [Act.put,List.setIfInBounds_toArray,List.set_cons_zero,List.set_cons_succ,QL,QO]
                          rfl
                         refine Yu (i:=3) (N:=some 88) (v:=?_) (a':=?_) #[true,true,true,true,false,true,false,false,false,false,false,false,false,false,false,false,false,false,false,false,false,false,false,false,false,false,false,false,false,false] rfl rfl (Y8 HT_.out (by kernel_rfl)) (fun _ _ _ h=>h) (Or.inl ⟨by rfl,?_⟩) ?_ ?_
                         rotate_left
                         ·
                          intro w'
                          go_simp
                          with_reducible rfl
                         rotate_left
                         ·
                          simp only [Act.put,List.setIfInBounds_toArray,List.set_cons_zero,List.set_cons_succ,QL,QO]
                          rfl
                         refine Gp (i:=4) (N:=some 89) (v:=?_) (a':=?_) #[true,true,true,true,true,true,false,false,false,false,false,false,false,false,false,false,false,false,false,false,false,false,false,false,false,false,false,false,false,false] rfl rfl (Zg HT_.out HW_.out (by kernel_rfl)) (fun _ _ _ h=>h) (Or.inl ⟨by rfl,?_⟩) hHeld ?_ ?_
                         rotate_left
                         ·
                          rintro w' ⟨s0,s1,s2,s3,s4,s5,s6,s7,s8⟩
                          go_simp
                          with_reducible rfl
                         rotate_left
                         ·
                          simp only [Act.put,List.setIfInBounds_toArray,List.set_cons_zero,List.set_cons_succ,QL,QO]
                          rfl
                         refine Yu (i:=6) (N:=some 91) (v:=?_) (a':=?_) #[true,true,true,true,true,true,true,false,false,false,false,false,false,false,false,false,false,false,false,false,false,false,false,false,false,false,false,false,false,false] rfl rfl (Y8 HT_.out (by kernel_rfl)) (fun _ _ _ h=>h) (Or.inl ⟨by rfl,?_⟩) ?_ ?_
                         rotate_left
                         ·
                          intro w'
                          go_simp
                          with_reducible rfl
                         rotate_left
                         ·
                          simp only [Act.put,List.setIfInBounds_toArray,List.set_cons_zero,List.set_cons_succ,QL,QO]
                          rfl
                         refine Gp (i:=7) (N:=some 92) (v:=?_) (a':=?_) #[true,true,true,true,true,true,true,true,false,false,false,false,false,false,false,false,false,false,false,false,false,false,false,false,false,false,false,false,false,false] rfl rfl (Zg HT_.out HW_.out (by kernel_rfl)) (fun _ _ _ h=>h) (Or.inl ⟨by rfl,?_⟩) hHeld ?_ ?_
                         rotate_left
                         ·
                          rintro w' ⟨s0,s1,s2,s3,s4,s5,s6,s7,s8⟩
                          go_simp
                          with_reducible rfl
                         rotate_left
                         ·
                          simp only [Act.put,List.setIfInBounds_toArray,List.set_cons_zero,List.set_cons_succ,QL,QO]
                          rfl
                         refine Yu (i:=8) (N:=some 93) (v:=?_) (a':=?_) #[true,true,true,true,true,true,true,true,true,false,false,false,false,false,false,false,false,false,false,false,false,false,false,false,false,false,false,false,false,false] rfl rfl (Y8 HT_.out (by kernel_rfl)) (fun _ _ _ h=>h) (Or.inl ⟨by rfl,?_⟩) ?_ ?_
                         rotate_left
                         ·
                          intro w'
                          go_simp
                          with_reducible rfl
                         rotate_left
                         ·
                          simp only [Act.put,List.setIfInBounds_toArray,List.set_cons_zero,List.set_cons_succ,QL,QO]
                          rfl
                         refine one_ (i:=9) (N:=some 94) #[true,true,true,true,true,true,true,true,true,true,false,false,false,false,false,false,false,false,false,false,false,false,false,false,false,false,false,false,false,false] rfl rfl (OG HT_.out (by kernel_rfl)) (by decide) (fun K hK => ?_);refine qcc Try.func34 (by kernel_rfl) rfl #[.int .i64 ((QC (Qs Qb Jj) GM).length:Int),.int .i64 1,.int .i64 10] (by rfl) rfl rfl (by (try simp only [List.map_toArray,List.map_cons,List.map_nil]);first|done|rfl|(simp only [List.length_drop,List.length_take];rfl)) ?_
                         with_reducible refine (Qn.calls ((QC (Qs Qb Jj) GM).length:Int) 1 10 true _ A49.out).mono ?_
                         rintro e w' ⟨rfl,⟨nd,rfl⟩⟩;refine ⟨_,rfl,?_⟩;refine hK.out _ _ ⟨(Q9 Y1.out 0).trans rfl,(Q9 Y1.out 1).trans rfl,(Q9 Y1.out 2).trans rfl,((HB.out.cell (World.block_lt_of_cell? w _ Wk)).trans Wk),((HB.out.cell (World.block_lt_of_cell? w _ Wl)).trans Wl),((HB.out.cell (World.block_lt_of_cell? w _ qfE)).trans qfE),((HB.out.cell (World.block_lt_of_cell? w _ qfF)).trans qfF),((HB.out.cell (World.block_lt_of_cell? w _ qas)).trans qas),((HB.out.cell (World.block_lt_of_cell? w _ qat)).trans qat)⟩ (fun hHeld => ?_);clear hK K;refine KL (a':=?_) ?_ ?_
                         rotate_left
                         ·
                          show Act.put _ (some 94) _=_
                          simp only [Act.put,List.setIfInBounds_toArray,List.set_cons_zero,List.set_cons_succ,QL,QO]
                          rfl
                         refine Yu (i:=10) (N:=some 95) (v:=?_) (a':=?_) #[true,true,true,true,true,true,true,true,true,true,true,false,false,false,false,false,false,false,false,false,false,false,false,false,false,false,false,false,false,false] rfl rfl (Y8 HT_.out (by kernel_rfl)) (fun _ _ _ h=>h) (Or.inl ⟨by rfl,?_⟩) ?_ ?_
                         rotate_left
                         ·
                          intro w'
                          go_simp
                          with_reducible rfl
                         rotate_left
                         ·
                          simp only [Act.put,List.setIfInBounds_toArray,List.set_cons_zero,List.set_cons_succ,QL,QO]
                          rfl
                         refine Yu (i:=11) (N:=some 96) (v:=?_) (a':=?_) #[true,true,true,true,true,true,true,true,true,true,true,true,false,false,false,false,false,false,false,false,false,false,false,false,false,false,false,false,false,false] rfl rfl (Y8 HT_.out (by kernel_rfl)) (fun _ _ _ h=>h) (Or.inl ⟨by rfl,?_⟩) ?_ ?_
                         rotate_left
                         ·
                          intro w'
                          go_simp
                          with_reducible rfl
                         rotate_left
                         ·
                          simp only [Act.put,List.setIfInBounds_toArray,List.set_cons_zero,List.set_cons_succ,QL,QO]
                          rfl
                         refine Yu (i:=13) (N:=some 98) (v:=?_) (a':=?_) #[true,true,true,true,true,true,true,true,true,true,true,true,false,true,false,false,false,false,false,false,false,false,false,false,false,false,false,false,false,false] rfl rfl (Y8 HT_.out (by kernel_rfl)) (fun _ _ _ h=>h) (Or.inl ⟨by rfl,?_⟩) ?_ ?_
                         rotate_left
                         ·
                          intro w'
                          go_simp
                          with_reducible rfl
                         rotate_left
                         ·
                          simp only [Act.put,List.setIfInBounds_toArray,List.set_cons_zero,List.set_cons_succ,QL,QO]
                          rfl
                         refine Yu (i:=16) (N:=some 101) (v:=?_) (a':=?_) #[true,true,true,true,true,true,true,true,true,true,true,true,false,true,false,false,true,false,false,false,false,false,false,false,false,false,false,false,false,false] rfl rfl (Y8 HT_.out (by kernel_rfl)) (fun _ _ _ h=>h) (Or.inl ⟨by rfl,?_⟩) ?_ ?_
                         rotate_left
                         ·
                          intro w'
                          go_simp
                          with_reducible rfl
                         rotate_left
                         ·
                          simp only [Act.put,List.setIfInBounds_toArray,List.set_cons_zero,List.set_cons_succ,QL,QO]
                          rfl
                         refine Yu (i:=20) (N:=some 105) (v:=?_) (a':=?_) #[true,true,true,true,true,true,true,true,true,true,true,true,false,true,false,false,true,false,false,false,true,false,false,false,false,false,false,false,false,false] rfl rfl (Y8 HT_.out (by kernel_rfl)) (fun _ _ _ h=>h) (Or.inl ⟨by rfl,?_⟩) ?_ ?_
                         rotate_left
                         ·
                          intro w'
                          go_simp
                          with_reducible rfl
                         rotate_left
                         ·
                          simp only [Act.put,List.setIfInBounds_toArray,List.set_cons_zero,List.set_cons_succ,QL,QO]
                          rfl
                         refine Gp (i:=12) (N:=some 97) (v:=?_) (a':=?_) #[true,true,true,true,true,true,true,true,true,true,true,true,true,true,false,false,true,false,false,false,true,false,false,false,false,false,false,false,false,false] rfl rfl (Zg HT_.out HW_.out (by kernel_rfl)) (fun _ _ _ h=>h) (Or.inl ⟨by rfl,?_⟩) hHeld ?_ ?_
                         rotate_left
                         ·
                          rintro w' ⟨s0,s1,s2,s3,s4,s5,s6,s7,s8⟩
                          go_simp
                          with_reducible rfl
                         rotate_left
                         ·
                          simp only [Act.put,List.setIfInBounds_toArray,List.set_cons_zero,List.set_cons_succ,QL,QO]
                          rfl
                         refine Yu (i:=14) (N:=some 99) (v:=?_) (a':=?_) #[true,true,true,true,true,true,true,true,true,true,true,true,true,true,true,false,true,false,false,false,true,false,false,false,false,false,false,false,false,false] rfl rfl (Y8 HT_.out (by kernel_rfl)) (fun _ _ _ h=>h) (Or.inl ⟨by rfl,?_⟩) ?_ ?_
                         rotate_left
                         ·
                          intro w'
                          go_simp
                          with_reducible rfl
                         rotate_left
                         ·
                          simp only [Act.put,List.setIfInBounds_toArray,List.set_cons_zero,List.set_cons_succ,QL,QO]
                          rfl
                         refine Gp (i:=15) (N:=some 100) (v:=?_) (a':=?_) #[true,true,true,true,true,true,true,true,true,true,true,true,true,true,true,true,true,false,false,false,true,false,false,false,false,false,false,false,false,false] rfl rfl (Zg HT_.out HW_.out (by kernel_rfl)) (fun _ _ _ h=>h) (Or.inl ⟨by rfl,?_⟩) hHeld ?_ ?_
                         rotate_left
                         ·
                          rintro w' ⟨s0,s1,s2,s3,s4,s5,s6,s7,s8⟩
                          go_simp
                          with_reducible rfl
                         rotate_left
                         ·
                          simp only [Act.put,List.setIfInBounds_toArray,List.set_cons_zero,List.set_cons_succ,QL,QO]
                          rfl
                         refine Yu (i:=17) (N:=some 102) (v:=?_) (a':=?_) #[true,true,true,true,true,true,true,true,true,true,true,true,true,true,true,true,true,true,false,false,true,false,false,false,false,false,false,false,false,false] rfl rfl (Y8 HT_.out (by kernel_rfl)) (fun _ _ _ h=>h) (Or.inl ⟨by rfl,?_⟩) ?_ ?_
                         rotate_left
                         ·
                          intro w'
                          go_simp
                          with_reducible rfl
                         rotate_left
                         ·
                          simp only [Act.put,List.setIfInBounds_toArray,List.set_cons_zero,List.set_cons_succ,QL,QO]
                          rfl
                         refine Gp (i:=18) (N:=some 103) (v:=?_) (a':=?_) #[true,true,true,true,true,true,true,true,true,true,true,true,true,true,true,true,true,true,true,false,true,false,false,false,false,false,false,false,false,false] rfl rfl (Zg HT_.out HW_.out (by kernel_rfl)) (fun _ _ _ h=>h) (Or.inl ⟨by rfl,?_⟩) hHeld ?_ ?_
                         rotate_left
                         ·
                          rintro w' ⟨s0,s1,s2,s3,s4,s5,s6,s7,s8⟩
                          go_simp
                          with_reducible rfl
                         rotate_left
                         ·
                          simp only [Act.put,List.setIfInBounds_toArray,List.set_cons_zero,List.set_cons_succ,QL,QO]
                          rfl
                         refine Yu (i:=19) (N:=some 104) (v:=?_) (a':=?_) #[true,true,true,true,true,true,true,true,true,true,true,true,true,true,true,true,true,true,true,true,true,false,false,false,false,false,false,false,false,false] rfl rfl (Y8 HT_.out (by kernel_rfl)) (fun _ _ _ h=>h) (Or.inl ⟨by rfl,?_⟩) ?_ ?_
                         rotate_left
                         ·
                          intro w'
                          go_simp
                          with_reducible rfl
                         rotate_left
                         ·
                          simp only [Act.put,List.setIfInBounds_toArray,List.set_cons_zero,List.set_cons_succ,QL,QO]
                          rfl
                         refine Gp (i:=21) (N:=some 106) (v:=?_) (a':=?_) #[true,true,true,true,true,true,true,true,true,true,true,true,true,true,true,true,true,true,true,true,true,true,false,false,false,false,false,false,false,false] rfl rfl (Zg HT_.out HW_.out (by kernel_rfl)) (fun _ _ _ h=>h) (Or.inl ⟨by rfl,?_⟩) hHeld ?_ ?_
                         rotate_left
                         ·
                          rintro w' ⟨s0,s1,s2,s3,s4,s5,s6,s7,s8⟩
                          go_simp
                          with_reducible rfl
                         rotate_left
                         ·
                          simp only [Act.put,List.setIfInBounds_toArray,List.set_cons_zero,List.set_cons_succ,QL,QO]
                          rfl
                         refine Yu (i:=22) (N:=some 107) (v:=?_) (a':=?_) #[true,true,true,true,true,true,true,true,true,true,true,true,true,true,true,true,true,true,true,true,true,true,true,false,false,false,false,false,false,false] rfl rfl (Y8 HT_.out (by kernel_rfl)) (fun _ _ _ h=>h) (Or.inl ⟨by rfl,?_⟩) ?_ ?_
                         rotate_left
                         ·
                          intro w'
                          go_simp
                          with_reducible rfl
                         rotate_left
                         ·
                          simp only [Act.put,List.setIfInBounds_toArray,List.set_cons_zero,List.set_cons_succ,QL,QO]
                          rfl
                         refine Gp (i:=23) (N:=some 108) (v:=?_) (a':=?_) #[true,true,true,true,true,true,true,true,true,true,true,true,true,true,true,true,true,true,true,true,true,true,true,true,false,false,false,false,false,false] rfl rfl (Zg HT_.out HW_.out (by kernel_rfl)) (fun _ _ _ h=>h) (Or.inl ⟨by rfl,?_⟩) hHeld ?_ ?_
                         rotate_left
                         ·
                          rintro w' ⟨s0,s1,s2,s3,s4,s5,s6,s7,s8⟩
                          go_simp
                          with_reducible rfl
                         rotate_left
                         ·
                          simp only [Act.put,List.setIfInBounds_toArray,List.set_cons_zero,List.set_cons_succ,QL,QO]
                          rfl
                         refine Yu (i:=24) (N:=some 109) (v:=?_) (a':=?_) #[true,true,true,true,true,true,true,true,true,true,true,true,true,true,true,true,true,true,true,true,true,true,true,true,true,false,false,false,false,false] rfl rfl (Y8 HT_.out (by kernel_rfl)) (fun _ _ _ h=>h) (Or.inl ⟨by rfl,?_⟩) ?_ ?_
                         rotate_left
                         ·
                          intro w'
                          go_simp
                          with_reducible rfl
                         rotate_left
                         ·
                          simp only [Act.put,List.setIfInBounds_toArray,List.set_cons_zero,List.set_cons_succ,QL,QO]
                          rfl
                         refine Gp (i:=25) (N:=some 110) (v:=?_) (a':=?_) #[true,true,true,true,true,true,true,true,true,true,true,true,true,true,true,true,true,true,true,true,true,true,true,true,true,true,false,false,false,false] rfl rfl (Zg HT_.out HW_.out (by kernel_rfl)) (fun _ _ _ h=>h) (Or.inl ⟨by rfl,?_⟩) hHeld ?_ ?_
                         rotate_left
                         ·
                          rintro w' ⟨s0,s1,s2,s3,s4,s5,s6,s7,s8⟩
                          go_simp
                          with_reducible rfl
                         rotate_left
                         ·
                          simp only [Act.put,List.setIfInBounds_toArray,List.set_cons_zero,List.set_cons_succ,QL,QO]
                          rfl
                         refine Yu (i:=26) (N:=some 111) (v:=?_) (a':=?_) #[true,true,true,true,true,true,true,true,true,true,true,true,true,true,true,true,true,true,true,true,true,true,true,true,true,true,true,false,false,false] rfl rfl (Y8 HT_.out (by kernel_rfl)) (fun _ _ _ h=>h) (Or.inl ⟨by rfl,?_⟩) ?_ ?_
                         rotate_left
                         ·
                          intro w'
                          go_simp
                          with_reducible rfl
                         rotate_left
                         ·
                          simp only [Act.put,List.setIfInBounds_toArray,List.set_cons_zero,List.set_cons_succ,QL,QO]
                          rfl
                         refine Yu (i:=27) (N:=some 112) (v:=?_) (a':=?_) #[true,true,true,true,true,true,true,true,true,true,true,true,true,true,true,true,true,true,true,true,true,true,true,true,true,true,true,true,false,false] rfl rfl (Y8 HT_.out (by kernel_rfl)) (fun _ _ _ h=>h) (Or.inl ⟨by rfl,?_⟩) ?_ ?_
                         rotate_left
                         ·
                          intro w'
                          go_simp
                          with_reducible rfl
                         rotate_left
                         ·
                          simp only [Act.put,List.setIfInBounds_toArray,List.set_cons_zero,List.set_cons_succ,QL,QO]
                          rfl
                         refine Yu (i:=28) (N:=some 113) (v:=?_) (a':=?_) #[true,true,true,true,true,true,true,true,true,true,true,true,true,true,true,true,true,true,true,true,true,true,true,true,true,true,true,true,true,false] rfl rfl (Y8 HT_.out (by kernel_rfl)) (fun _ _ _ h=>h) (Or.inl ⟨by rfl,?_⟩) ?_ ?_
                         rotate_left
                         ·
                          intro w'
                          go_simp
                          with_reducible rfl
                         rotate_left
                         ·
                          simp only [Act.put,List.setIfInBounds_toArray,List.set_cons_zero,List.set_cons_succ,QL,QO]
                          rfl
                         refine Yu (i:=29) (N:=some 3) (v:=?_) (a':=?_) #[true,true,true,true,true,true,true,true,true,true,true,true,true,true,true,true,true,true,true,true,true,true,true,true,true,true,true,true,true,true] rfl rfl (Y8 HT_.out (by kernel_rfl)) (fun _ _ _ h=>h) (Or.inl ⟨by rfl,?_⟩) ?_ ?_
                         rotate_left
                         ·
                          intro w'
                          go_simp
                          with_reducible rfl
                         rotate_left
                         ·
                          simp only [Act.put,List.setIfInBounds_toArray,List.set_cons_zero,List.set_cons_succ,QL,QO]
                          rfl
                         refine qcU (X1 HT_.out (by kernel_rfl)) ?_
                         try go_wp2
                         go_roundg k6
                         case measure=>have:=HJ1.out;have:=HK2.out;have:=qcL.out;have:=HK4.out;have:=qjO.out;have:=HK6.out;omega
                         case rel=>exact ⟨((((QC (Qs Qb Jj) GM).length:Int)==((QC (Qs Qb 0) 0).length:Int))),(wrap64 (GM+1)),(by first|rfl|(simp;done)|(simp [*];done)),(by first|rfl|(simp;done)|(simp [*];done)),H',⟨by have:=HJ1.out;have:=HK2.out;have:=qcL.out;have:=HK4.out;have:=qjO.out;have:=HK6.out;omega⟩,⟨by (with_reducible repeat (first|refine Q4 ?_ _|refine Q7 ?_|refine Q2 ?_ _));exact Y1.out⟩,⟨by repeat (first|(with_reducible first|exact HB.out|apply Q3|apply Q1|apply Q6|refine Q5 ?_ KU.out)|exact HB.out)⟩⟩
                        rw [if_neg c52] at H
                        exact absurd H (by simp)
                       rw [if_neg c51] at H
                       exact absurd H (by simp)
                      replace c50:=Bool.eq_false_iff.mpr c50;subst c50
                      have H1:(Qd.l2 k6 false Jj (wrap64 (GM+1)) Qa Qf Qb)=some r:=by rw [if_neg (show ¬ (false=true) by decide)] at H;exact H
                      clear H;have H:=H1;clear H1;have H':=Q0.mk H;clear H;have qs7:wr.cell? ⟨Zl,0,none⟩=some (.slice QD Qa.length Qu):=(Q9 Y1.out 0).trans rfl;have qs8:wr.cell? ⟨Zl,1,none⟩=some (.slice QB Qf.length Qv):=(Q9 Y1.out 1).trans rfl;have qB6:wr.cell? ⟨Zl,2,none⟩=some (.slice (some UU) Qb.length Qw):=(Q9 Y1.out 2).trans rfl;have qtF:=Q8 Y1.out 0;have qtG:=Q8 Y1.out 1;have qDW:=Q8 Y1.out 2
                      try go_wp2
                      have n0_:=Q0.mk (Q7 Y1.out);have n1_:=Q0.mk (Q6 HB.out);clear Y1 HB;have Y1:=n0_;have HB:=n1_;clear n0_ n1_;have qma:0≤(Jj:Int):=of_decide_eq_true (by first|(with_reducible assumption)|assumption);have qmq:Jj<(Qb.length:Int):=of_decide_eq_true (by first|(with_reducible assumption)|assumption);obtain ⟨qp9,qvA,qhQ,qwm,Ot,qdK,qdz⟩:=WY Z5.out Jj qma qmq;have Wk:=Ot;obtain rfl:UU=qp9:=(by injection qwm);replace Ot:=(HB.out.cell (World.block_lt_of_cell? w _ Ot)).trans Ot;have qcN:=Q0.mk qdz;have qr3:=Q0.mk qdK;clear qdz qdK;replace qma:=eq_true qma;replace qmq:=eq_true qmq;have qmb:0≤(GM:Int):=of_decide_eq_true (by first|(with_reducible assumption)|assumption);have qmr:GM<((Qs Qb Jj).length:Int):=of_decide_eq_true (by first|(with_reducible assumption)|assumption);obtain ⟨qge,qlm,qlC,qwn,U2,qdL,qdA⟩:=WX qcN.out GM qmb qmr;have Wl:=U2;cases qwn;replace U2:=(HB.out.cell (World.block_lt_of_cell? w _ U2)).trans U2;have qhK:=Q0.mk qdA;have qr4:=Q0.mk qdL;clear qdA qdL;replace qmb:=eq_true qmb;replace qmr:=eq_true qmr;refine qaJ (n:=30) (S:=fun w'=>w'.cell? ⟨Zl,0,none⟩=some (.slice QD Qa.length Qu)∧w'.cell? ⟨Zl,1,none⟩=some (.slice QB Qf.length Qv)∧w'.cell? ⟨Zl,2,none⟩=some (.slice (some UU) Qb.length Qw)∧w'.cell? (UU.add (Jj).toNat)=some (.slice (some qge) (Qs Qb Jj).length qhQ)∧w'.cell? (qge.add (GM).toNat)=some (.slice qlm (QC (Qs Qb Jj) GM).length qlC)) (ds:=[]) #[false,false,false,false,false,false,false,false,false,false,false,false,false,false,false,false,false,false,false,false,false,false,false,false,false,false,false,false,false,false] (by kernel_rfl) rfl rfl ⟨(Q9 Y1.out 0).trans rfl,(Q9 Y1.out 1).trans rfl,(Q9 Y1.out 2).trans rfl,((HB.out.cell (World.block_lt_of_cell? w _ Wk)).trans Wk),((HB.out.cell (World.block_lt_of_cell? w _ Wl)).trans Wl)⟩ (fun hHeld => ?_);refine OM Qd.tab13 Qd.bits13 (fun HT_ HW_ => ?_)
                      generalize wr.drew=w56 at Y1 HB qcN qhK Ot U2 hHeld ⊢
                      refine Yu (i:=0) (N:=some 85) (v:=?_) (a':=?_) #[true,false,false,false,false,false,false,false,false,false,false,false,false,false,false,false,false,false,false,false,false,false,false,false,false,false,false,false,false,false] rfl rfl (Y8 HT_.out (by kernel_rfl)) (fun _ _ _ h=>h) (Or.inl ⟨by rfl,?_⟩) ?_ ?_
                      rotate_left
                      ·
                       intro w'
                       go_simp
                       with_reducible rfl
                      rotate_left
                      ·
                       simp only [Act.put,List.setIfInBounds_toArray,List.set_cons_zero,List.set_cons_succ,QL,QO]
                       rfl
                      refine Yu (i:=2) (N:=some 87) (v:=?_) (a':=?_) #[true,false,true,false,false,false,false,false,false,false,false,false,false,false,false,false,false,false,false,false,false,false,false,false,false,false,false,false,false,false] rfl rfl (Y8 HT_.out (by kernel_rfl)) (fun _ _ _ h=>h) (Or.inl ⟨by rfl,?_⟩) ?_ ?_
                      rotate_left
                      ·
                       intro w'
                       go_simp
                       with_reducible rfl
                      rotate_left
                      ·
                       simp only [Act.put,List.setIfInBounds_toArray,List.set_cons_zero,List.set_cons_succ,QL,QO]
                       rfl
                      refine Yu (i:=5) (N:=some 90) (v:=?_) (a':=?_) #[true,false,true,false,false,true,false,false,false,false,false,false,false,false,false,false,false,false,false,false,false,false,false,false,false,false,false,false,false,false] rfl rfl (Y8 HT_.out (by kernel_rfl)) (fun _ _ _ h=>h) (Or.inl ⟨by rfl,?_⟩) ?_ ?_
                      rotate_left
                      ·
                       intro w'
                       go_simp
                       with_reducible rfl
                      rotate_left
                      ·
                       simp only [Act.put,List.setIfInBounds_toArray,List.set_cons_zero,List.set_cons_succ,QL,QO]
                       rfl
                      refine Gp (i:=1) (N:=some 86) (v:=?_) (a':=?_) #[true,true,true,false,false,true,false,false,false,false,false,false,false,false,false,false,false,false,false,false,false,false,false,false,false,false,false,false,false,false] rfl rfl (Zg HT_.out HW_.out (by kernel_rfl)) (fun _ _ _ h=>h) (Or.inl ⟨by rfl,?_⟩) hHeld ?_ ?_
                      rotate_left
                      ·
                       rintro w' ⟨s0,s1,s2,s3,s4⟩
                       go_simp
                       with_reducible rfl
                      rotate_left
                      ·
                       simp only [Act.put,List.setIfInBounds_toArray,List.set_cons_zero,List.set_cons_succ,QL,QO]
                       rfl
                      refine Yu (i:=3) (N:=some 88) (v:=?_) (a':=?_) #[true,true,true,true,false,true,false,false,false,false,false,false,false,false,false,false,false,false,false,false,false,false,false,false,false,false,false,false,false,false] rfl rfl (Y8 HT_.out (by kernel_rfl)) (fun _ _ _ h=>h) (Or.inl ⟨by rfl,?_⟩) ?_ ?_
                      rotate_left
                      ·
                       intro w'
                       go_simp
                       with_reducible rfl
                      rotate_left
                      ·
                       simp only [Act.put,List.setIfInBounds_toArray,List.set_cons_zero,List.set_cons_succ,QL,QO]
                       rfl
                      refine Gp (i:=4) (N:=some 89) (v:=?_) (a':=?_) #[true,true,true,true,true,true,false,false,false,false,false,false,false,false,false,false,false,false,false,false,false,false,false,false,false,false,false,false,false,false] rfl rfl (Zg HT_.out HW_.out (by kernel_rfl)) (fun _ _ _ h=>h) (Or.inl ⟨by rfl,?_⟩) hHeld ?_ ?_
                      rotate_left
                      ·
                       rintro w' ⟨s0,s1,s2,s3,s4⟩
                       go_simp
                       with_reducible rfl
                      rotate_left
                      ·
                       simp only [Act.put,List.setIfInBounds_toArray,List.set_cons_zero,List.set_cons_succ,QL,QO]
                       rfl
                      refine Yu (i:=6) (N:=some 91) (v:=?_) (a':=?_) #[true,true,true,true,true,true,true,false,false,false,false,false,false,false,false,false,false,false,false,false,false,false,false,false,false,false,false,false,false,false] rfl rfl (Y8 HT_.out (by kernel_rfl)) (fun _ _ _ h=>h) (Or.inl ⟨by rfl,?_⟩) ?_ ?_
                      rotate_left
                      ·
                       intro w'
                       go_simp
                       with_reducible rfl
                      rotate_left
                      ·
                       simp only [Act.put,List.setIfInBounds_toArray,List.set_cons_zero,List.set_cons_succ,QL,QO]
                       rfl
                      refine Gp (i:=7) (N:=some 92) (v:=?_) (a':=?_) #[true,true,true,true,true,true,true,true,false,false,false,false,false,false,false,false,false,false,false,false,false,false,false,false,false,false,false,false,false,false] rfl rfl (Zg HT_.out HW_.out (by kernel_rfl)) (fun _ _ _ h=>h) (Or.inl ⟨by rfl,?_⟩) hHeld ?_ ?_
                      rotate_left
                      ·
                       rintro w' ⟨s0,s1,s2,s3,s4⟩
                       go_simp
                       with_reducible rfl
                      rotate_left
                      ·
                       simp only [Act.put,List.setIfInBounds_toArray,List.set_cons_zero,List.set_cons_succ,QL,QO]
                       rfl
                      refine Yu (i:=8) (N:=some 93) (v:=?_) (a':=?_) #[true,true,true,true,true,true,true,true,true,false,false,false,false,false,false,false,false,false,false,false,false,false,false,false,false,false,false,false,false,false] rfl rfl (Y8 HT_.out (by kernel_rfl)) (fun _ _ _ h=>h) (Or.inl ⟨by rfl,?_⟩) ?_ ?_
                      rotate_left
                      ·
                       intro w'
                       go_simp
                       with_reducible rfl
                      rotate_left
                      ·
                       simp only [Act.put,List.setIfInBounds_toArray,List.set_cons_zero,List.set_cons_succ,QL,QO]
                       rfl
                      refine one_ (i:=9) (N:=some 94) #[true,true,true,true,true,true,true,true,true,true,false,false,false,false,false,false,false,false,false,false,false,false,false,false,false,false,false,false,false,false] rfl rfl (OG HT_.out (by kernel_rfl)) (by decide) (fun K hK => ?_);refine qcc Try.func34 (by kernel_rfl) rfl #[.int .i64 ((QC (Qs Qb Jj) GM).length:Int),.int .i64 1,.int .i64 10] (by rfl) rfl rfl (by (try simp only [List.map_toArray,List.map_cons,List.map_nil]);first|done|rfl|(simp only [List.length_drop,List.length_take];rfl)) ?_
                      with_reducible refine (Qn.calls ((QC (Qs Qb Jj) GM).length:Int) 1 10 false _ A49.out).mono ?_
                      rintro e w' ⟨rfl,⟨nd,rfl⟩⟩;refine ⟨_,rfl,?_⟩;refine hK.out _ _ ⟨(Q9 Y1.out 0).trans rfl,(Q9 Y1.out 1).trans rfl,(Q9 Y1.out 2).trans rfl,((HB.out.cell (World.block_lt_of_cell? w _ Wk)).trans Wk),((HB.out.cell (World.block_lt_of_cell? w _ Wl)).trans Wl)⟩ (fun hHeld => ?_);clear hK K;refine KL (a':=?_) ?_ ?_
                      rotate_left
                      ·
                       show Act.put _ (some 94) _=_
                       simp only [Act.put,List.setIfInBounds_toArray,List.set_cons_zero,List.set_cons_succ,QL,QO]
                       rfl
                      refine Yu (i:=10) (N:=some 95) (v:=?_) (a':=?_) #[true,true,true,true,true,true,true,true,true,true,true,false,false,false,false,false,false,false,false,false,false,false,false,false,false,false,false,false,false,false] rfl rfl (Y8 HT_.out (by kernel_rfl)) (fun _ _ _ h=>h) (Or.inl ⟨by rfl,?_⟩) ?_ ?_
                      rotate_left
                      ·
                       intro w'
                       go_simp
                       with_reducible rfl
                      rotate_left
                      ·
                       simp only [Act.put,List.setIfInBounds_toArray,List.set_cons_zero,List.set_cons_succ,QL,QO]
                       rfl
                      refine Yu (i:=11) (N:=some 96) (v:=undef) (a':=?_) #[true,true,true,true,true,true,true,true,true,true,true,true,false,false,false,false,false,false,false,false,false,false,false,false,false,false,false,false,false,false] rfl rfl (Y8 HT_.out (by kernel_rfl)) (fun _ _ _ h=>h) (Or.inr ⟨by rfl,rfl⟩) ?_ ?_
                      rotate_left
                      ·
                       simp only [Act.put,List.setIfInBounds_toArray,List.set_cons_zero,List.set_cons_succ,QL,QO]
                       rfl
                      refine Yu (i:=12) (N:=some 97) (v:=undef) (a':=?_) #[true,true,true,true,true,true,true,true,true,true,true,true,true,false,false,false,false,false,false,false,false,false,false,false,false,false,false,false,false,false] rfl rfl (Y8 HT_.out (by kernel_rfl)) (fun _ _ _ h=>h) (Or.inr ⟨by rfl,rfl⟩) ?_ ?_
                      rotate_left
                      ·
                       simp only [Act.put,List.setIfInBounds_toArray,List.set_cons_zero,List.set_cons_succ,QL,QO]
                       rfl
                      refine Yu (i:=13) (N:=some 98) (v:=undef) (a':=?_) #[true,true,true,true,true,true,true,true,true,true,true,true,true,true,false,false,false,false,false,false,false,false,false,false,false,false,false,false,false,false] rfl rfl (Y8 HT_.out (by kernel_rfl)) (fun _ _ _ h=>h) (Or.inr ⟨by rfl,rfl⟩) ?_ ?_
                      rotate_left
                      ·
                       simp only [Act.put,List.setIfInBounds_toArray,List.set_cons_zero,List.set_cons_succ,QL,QO]
                       rfl
                      refine Yu (i:=14) (N:=some 99) (v:=undef) (a':=?_) #[true,true,true,true,true,true,true,true,true,true,true,true,true,true,true,false,false,false,false,false,false,false,false,false,false,false,false,false,false,false] rfl rfl (Y8 HT_.out (by kernel_rfl)) (fun _ _ _ h=>h) (Or.inr ⟨by rfl,rfl⟩) ?_ ?_
                      rotate_left
                      ·
                       simp only [Act.put,List.setIfInBounds_toArray,List.set_cons_zero,List.set_cons_succ,QL,QO]
                       rfl
                      refine Yu (i:=15) (N:=some 100) (v:=undef) (a':=?_) #[true,true,true,true,true,true,true,true,true,true,true,true,true,true,true,true,false,false,false,false,false,false,false,false,false,false,false,false,false,false] rfl rfl (Y8 HT_.out (by kernel_rfl)) (fun _ _ _ h=>h) (Or.inr ⟨by rfl,rfl⟩) ?_ ?_
                      rotate_left
                      ·
                       simp only [Act.put,List.setIfInBounds_toArray,List.set_cons_zero,List.set_cons_succ,QL,QO]
                       rfl
                      refine Yu (i:=16) (N:=some 101) (v:=undef) (a':=?_) #[true,true,true,true,true,true,true,true,true,true,true,true,true,true,true,true,true,false,false,false,false,false,false,false,false,false,false,false,false,false] rfl rfl (Y8 HT_.out (by kernel_rfl)) (fun _ _ _ h=>h) (Or.inr ⟨by rfl,rfl⟩) ?_ ?_
                      rotate_left
                      ·
                       simp only [Act.put,List.setIfInBounds_toArray,List.set_cons_zero,List.set_cons_succ,QL,QO]
                       rfl
                      refine Yu (i:=17) (N:=some 102) (v:=undef) (a':=?_) #[true,true,true,true,true,true,true,true,true,true,true,true,true,true,true,true,true,true,false,false,false,false,false,false,false,false,false,false,false,false] rfl rfl (Y8 HT_.out (by kernel_rfl)) (fun _ _ _ h=>h) (Or.inr ⟨by rfl,rfl⟩) ?_ ?_
                      rotate_left
                      ·
                       simp only [Act.put,List.setIfInBounds_toArray,List.set_cons_zero,List.set_cons_succ,QL,QO]
                       rfl
                      refine Yu (i:=18) (N:=some 103) (v:=undef) (a':=?_) #[true,true,true,true,true,true,true,true,true,true,true,true,true,true,true,true,true,true,true,false,false,false,false,false,false,false,false,false,false,false] rfl rfl (Y8 HT_.out (by kernel_rfl)) (fun _ _ _ h=>h) (Or.inr ⟨by rfl,rfl⟩) ?_ ?_
                      rotate_left
                      ·
                       simp only [Act.put,List.setIfInBounds_toArray,List.set_cons_zero,List.set_cons_succ,QL,QO]
                       rfl
                      refine Yu (i:=19) (N:=some 104) (v:=undef) (a':=?_) #[true,true,true,true,true,true,true,true,true,true,true,true,true,true,true,true,true,true,true,true,false,false,false,false,false,false,false,false,false,false] rfl rfl (Y8 HT_.out (by kernel_rfl)) (fun _ _ _ h=>h) (Or.inr ⟨by rfl,rfl⟩) ?_ ?_
                      rotate_left
                      ·
                       simp only [Act.put,List.setIfInBounds_toArray,List.set_cons_zero,List.set_cons_succ,QL,QO]
                       rfl
                      refine Yu (i:=20) (N:=some 105) (v:=undef) (a':=?_) #[true,true,true,true,true,true,true,true,true,true,true,true,true,true,true,true,true,true,true,true,true,false,false,false,false,false,false,false,false,false] rfl rfl (Y8 HT_.out (by kernel_rfl)) (fun _ _ _ h=>h) (Or.inr ⟨by rfl,rfl⟩) ?_ ?_
                      rotate_left
                      ·
                       simp only [Act.put,List.setIfInBounds_toArray,List.set_cons_zero,List.set_cons_succ,QL,QO]
                       rfl
                      refine Yu (i:=21) (N:=some 106) (v:=undef) (a':=?_) #[true,true,true,true,true,true,true,true,true,true,true,true,true,true,true,true,true,true,true,true,true,true,false,false,false,false,false,false,false,false] rfl rfl (Y8 HT_.out (by kernel_rfl)) (fun _ _ _ h=>h) (Or.inr ⟨by rfl,rfl⟩) ?_ ?_
                      rotate_left
                      ·
                       simp only [Act.put,List.setIfInBounds_toArray,List.set_cons_zero,List.set_cons_succ,QL,QO]
                       rfl
                      refine Yu (i:=22) (N:=some 107) (v:=undef) (a':=?_) #[true,true,true,true,true,true,true,true,true,true,true,true,true,true,true,true,true,true,true,true,true,true,true,false,false,false,false,false,false,false] rfl rfl (Y8 HT_.out (by kernel_rfl)) (fun _ _ _ h=>h) (Or.inr ⟨by rfl,rfl⟩) ?_ ?_
                      rotate_left
                      ·
                       simp only [Act.put,List.setIfInBounds_toArray,List.set_cons_zero,List.set_cons_succ,QL,QO]
                       rfl
                      refine Yu (i:=23) (N:=some 108) (v:=undef) (a':=?_) #[true,true,true,true,true,true,true,true,true,true,true,true,true,true,true,true,true,true,true,true,true,true,true,true,false,false,false,false,false,false] rfl rfl (Y8 HT_.out (by kernel_rfl)) (fun _ _ _ h=>h) (Or.inr ⟨by rfl,rfl⟩) ?_ ?_
                      rotate_left
                      ·
                       simp only [Act.put,List.setIfInBounds_toArray,List.set_cons_zero,List.set_cons_succ,QL,QO]
                       rfl
                      refine Yu (i:=24) (N:=some 109) (v:=undef) (a':=?_) #[true,true,true,true,true,true,true,true,true,true,true,true,true,true,true,true,true,true,true,true,true,true,true,true,true,false,false,false,false,false] rfl rfl (Y8 HT_.out (by kernel_rfl)) (fun _ _ _ h=>h) (Or.inr ⟨by rfl,rfl⟩) ?_ ?_
                      rotate_left
                      ·
                       simp only [Act.put,List.setIfInBounds_toArray,List.set_cons_zero,List.set_cons_succ,QL,QO]
                       rfl
                      refine Yu (i:=25) (N:=some 110) (v:=undef) (a':=?_) #[true,true,true,true,true,true,true,true,true,true,true,true,true,true,true,true,true,true,true,true,true,true,true,true,true,true,false,false,false,false] rfl rfl (Y8 HT_.out (by kernel_rfl)) (fun _ _ _ h=>h) (Or.inr ⟨by rfl,rfl⟩) ?_ ?_
                      rotate_left
                      ·
                       simp only [Act.put,List.setIfInBounds_toArray,List.set_cons_zero,List.set_cons_succ,QL,QO]
                       rfl
                      refine Yu (i:=26) (N:=some 111) (v:=undef) (a':=?_) #[true,true,true,true,true,true,true,true,true,true,true,true,true,true,true,true,true,true,true,true,true,true,true,true,true,true,true,false,false,false] rfl rfl (Y8 HT_.out (by kernel_rfl)) (fun _ _ _ h=>h) (Or.inr ⟨by rfl,rfl⟩) ?_ ?_
                      rotate_left
                      ·
                       simp only [Act.put,List.setIfInBounds_toArray,List.set_cons_zero,List.set_cons_succ,QL,QO]
                       rfl
                      refine Yu (i:=27) (N:=some 112) (v:=undef) (a':=?_) #[true,true,true,true,true,true,true,true,true,true,true,true,true,true,true,true,true,true,true,true,true,true,true,true,true,true,true,true,false,false] rfl rfl (Y8 HT_.out (by kernel_rfl)) (fun _ _ _ h=>h) (Or.inr ⟨by rfl,rfl⟩) ?_ ?_
                      rotate_left
                      ·
                       simp only [Act.put,List.setIfInBounds_toArray,List.set_cons_zero,List.set_cons_succ,QL,QO]
                       rfl
                      refine Yu (i:=28) (N:=some 113) (v:=?_) (a':=?_) #[true,true,true,true,true,true,true,true,true,true,true,true,true,true,true,true,true,true,true,true,true,true,true,true,true,true,true,true,true,false] rfl rfl (Y8 HT_.out (by kernel_rfl)) (fun _ _ _ h=>h) (Or.inl ⟨by rfl,?_⟩) ?_ ?_
                      rotate_left
                      ·
                       intro w'
                       go_simp
                       with_reducible rfl
                      rotate_left
                      ·
                       simp only [Act.put,List.setIfInBounds_toArray,List.set_cons_zero,List.set_cons_succ,QL,QO]
                       rfl
                      refine Yu (i:=29) (N:=some 3) (v:=?_) (a':=?_) #[true,true,true,true,true,true,true,true,true,true,true,true,true,true,true,true,true,true,true,true,true,true,true,true,true,true,true,true,true,true] rfl rfl (Y8 HT_.out (by kernel_rfl)) (fun _ _ _ h=>h) (Or.inl ⟨by rfl,?_⟩) ?_ ?_
                      rotate_left
                      ·
                       intro w'
                       go_simp
                       with_reducible rfl
                      rotate_left
                      ·
                       simp only [Act.put,List.setIfInBounds_toArray,List.set_cons_zero,List.set_cons_succ,QL,QO]
                       rfl
                      refine qcU (X1 HT_.out (by kernel_rfl)) ?_
                      try go_wp2
                      go_roundg k6
                      case measure=>have:=HJ1.out;have:=HK2.out;have:=qcL.out;have:=HK4.out;have:=qjO.out;have:=HK6.out;omega
                      case rel=>exact ⟨(false),(wrap64 (GM+1)),(by first|rfl|(simp;done)|(simp [*];done)),(by first|rfl|(simp;done)|(simp [*];done)),H',⟨by have:=HJ1.out;have:=HK2.out;have:=qcL.out;have:=HK4.out;have:=qjO.out;have:=HK6.out;omega⟩,⟨by (with_reducible repeat (first|refine Q4 ?_ _|refine Q7 ?_|refine Q2 ?_ _));exact Y1.out⟩,⟨by repeat (first|(with_reducible first|exact HB.out|apply Q3|apply Q1|apply Q6|refine Q5 ?_ KU.out)|exact HB.out)⟩⟩
                     rw [if_neg c48] at H
                     exact absurd H (by simp)
                    rw [if_neg c47] at H
                    exact absurd H (by simp)
                   rw [if_neg c46] at H
                   exact absurd H (by simp)
                  rw [if_neg c45] at H
                  exact absurd H (by simp)
                 rw [if_neg c44] at H;have c44b0:decide (GM<(Qa.length:Int))=false:=decide_eq_false c44;clear c44;have H':=Q0.mk H;clear H;have qs9:wr.cell? ⟨Zl,0,none⟩=some (.slice QD Qa.length Qu):=(Q9 Y1.out 0).trans rfl;have qta:wr.cell? ⟨Zl,1,none⟩=some (.slice QB Qf.length Qv):=(Q9 Y1.out 1).trans rfl;have qtb:wr.cell? ⟨Zl,2,none⟩=some (.slice (some UU) Qb.length Qw):=(Q9 Y1.out 2).trans rfl;have qtH:=Q8 Y1.out 0;have qtI:=Q8 Y1.out 1;have qtJ:=Q8 Y1.out 2
                 go_wp2
                 go_roundg k6
                 case measure=>have:=HJ1.out;have:=HK2.out;have:=qcL.out;have:=HK4.out;have:=qjO.out;have:=HK6.out;omega
                 case rel=>exact ⟨(true),(wrap64 (Jj+1)),(by first|rfl|(simp;done)|(simp [*];done)),(by first|rfl|(simp;done)|(simp [*];done)),H',⟨by have:=HJ1.out;have:=HK2.out;have:=qcL.out;have:=HK4.out;have:=qjO.out;have:=HK6.out;omega⟩,⟨by (with_reducible repeat (first|refine Q4 ?_ _|refine Q7 ?_|refine Q2 ?_ _));exact Y1.out⟩,⟨by repeat (first|(with_reducible first|exact HB.out|apply Q3|apply Q1|apply Q6|refine Q5 ?_ KU.out)|exact HB.out)⟩⟩
                replace c43:=Bool.eq_false_iff.mpr c43;subst c43
                have H1:(Qd.l1 k6 false (wrap64 (Jj+1)) Qa Qf Qb)=some r:=by rw [if_neg (show ¬ (false=true) by decide)] at H;exact H
                clear H;have H:=H1;clear H1;have H':=Q0.mk H;clear H
                go_wp2
                go_roundg k6
                case measure=>have:=HJ1.out;have:=HK2.out;have:=qcL.out;have:=HK4.out;have:=qjO.out;have:=HK6.out;omega
                case rel=>exact ⟨(false),(wrap64 (Jj+1)),(by first|rfl|(simp;done)|(simp [*];done)),(by first|rfl|(simp;done)|(simp [*];done)),H',⟨by have:=HJ1.out;have:=HK2.out;have:=qcL.out;have:=HK4.out;have:=qjO.out;have:=HK6.out;omega⟩,⟨by (with_reducible repeat (first|refine Q4 ?_ _|refine Q7 ?_|refine Q2 ?_ _));exact Y1.out⟩,⟨by repeat (first|(with_reducible first|exact HB.out|apply Q3|apply Q1|apply Q6|refine Q5 ?_ KU.out)|exact HB.out)⟩⟩
             rw [if_neg c41] at H
             exact absurd H (by simp)
            rw [if_neg c40] at H
            exact absurd H (by simp)
           replace c39:=Bool.eq_false_iff.mpr c39;subst c39
           have H1:(some qpf)=some r:=by rw [if_neg (show ¬ (false=true) by decide)] at H;exact H
           clear H;have H:=H1;clear H1;obtain rfl:=Option.some.inj H
           go_wp2
           go_ret
           exact ⟨by first|rfl|(simp [Qz,QA]<;>rfl)|(simp [*,Qz,QA]<;>rfl),by repeat (first|(with_reducible first|exact HB.out|apply Q3|apply Q1|apply Q6|refine Q5 ?_ KU.out)|exact HB.out)⟩
end
section
attribute [local go_sem] Yv Yx YJ YK Yl Ym Yw Yy
mutual
def Qx.j0:Nat→List Int→List Int→Bool→List Int→List Int→List Int→Int→Int→Option (List Int × Int)
 | 0,_,_,_,_,_,_,_,_=>none
 | k+1,x1,x2,x9,Ou,Ov,Ow,Ox,Oy=>Qx.l0 k x1 x2 x9 0 Ou Ov Ow Ox Oy
def Qx.l0:Nat→List Int→List Int→Bool→Int→List Int→List Int→List Int→Int→Int→Option (List Int × Int)
 | 0,_,_,_,_,_,_,_,_,_=>none
 | k+1,x1,x2,x9,x10,Ou,Ov,Ow,Ox,Oy=>if x9=true then (Qx.j2 k x1 x2 x9 x10 (decide (x10<(x1.length:Int))) Ou Ov Ow Ox Oy) else (Qx.j2 k x1 x2 x9 x10 false Ou Ov Ow Ox Oy)
def Qx.j2:Nat→List Int→List Int→Bool→Int→Bool→List Int→List Int→List Int→Int→Int→Option (List Int × Int)
 | 0,_,_,_,_,_,_,_,_,_,_=>none
 | k+1,x1,x2,x9,x10,x39,Ou,Ov,Ow,Ox,Oy=>if x39=true then (if 0≤x10 then (if x10<(x1.length:Int) then ((Qo.f (rd x1 x10) 0 100000000).bind fun t159=>(if t159=true then (if x10<(x2.length:Int) then ((Qo.f (rd x2 x10) 0 100000).bind fun qgJ=>(Qx.l0 k x1 x2 qgJ (wrap64 (x10+1)) Ou Ov Ow Ox Oy)) else (none)) else (Qx.l0 k x1 x2 false (wrap64 (x10+1)) Ou Ov Ow Ox Oy))) else (none)) else (none)) else (if x9=true then ((Z8.f Ou Ov Ow Ox Oy).bind fun OJ=>(Qx.l1 k x1 x2 ([]:List Int) (x1.length:Int) 0 Ou Ov Ow Ox Oy OJ.1 OJ.2.1 OJ.2.2.1 OJ.2.2.2.1 OJ.2.2.2.2.1 OJ.2.2.2.2.2)) else (some (([]:List Int),92)))
def Qx.l1:Nat→List Int→List Int→List Int→Int→Int→List Int→List Int→List Int→Int→Int→Int→Int→Int→Int→Int→Int→Option (List Int × Int)
 | 0,_,_,_,_,_,_,_,_,_,_,_,_,_,_,_,_=>none
 | k+1,x1,x2,x13,x59,x60,Ou,Ov,Ow,Ox,Oy,qus,qut,quu,quv,quw,qux=>if x60<x59 then (if 0≤x60 then (if x60<(x1.length:Int) then (if x60<(x2.length:Int) then ((YY.f Ou Ov Ow Ox Oy qus qut quu quv quw qux (rd x1 x60) (rd x2 x60)).bind fun qgg=>(if x13.length<17592186044416 then (Qx.l1 k x1 x2 (x13++[qgg.1]) x59 (wrap64 (x60+1)) Ou Ov Ow Ox Oy qgg.2.1 qgg.2.2.1 qgg.2.2.2.1 qgg.2.2.2.2.1 qgg.2.2.2.2.2.1 qgg.2.2.2.2.2.2) else (none))) else (none)) else (none)) else (none)) else (if 0≤(x13.length:Int) then (if (x13.length:Int)≤(x13.length:Int) then (some ((x13.take ((x13.length:Int):Int).toNat),0)) else (none)) else (none))
end
def Qx.f (k:Nat) (Qa:List Int) (Qf:List Int) (Qb:List Int) (Y0:Int) (QU:Int) (l1:List Int) (l2:List Int):Option (List Int × Int):=(Qi.f k Qa Qf Qb Y0 QU).bind fun t156=>(if t156=true then ((Qo.f (l1.length:Int) 1 10).bind fun t157=>(if t157=true then (Qx.j0 k l1 l2 ((l2.length:Int)==(l1.length:Int)) Qa Qf Qb Y0 QU) else (Qx.j0 k l1 l2 false Qa Qf Qb Y0 QU))) else (Qx.j0 k l1 l2 false Qa Qf Qb Y0 QU))
def Qx.T15:Bool × List (List Nat × List Nat):=(true,[([],[]),([],[]),([],[]),([],[]),([],[]),([3,4],[3,4]),([5],[5]),([],[]),([],[]),([7,8],[7,8]),([9],[9]),([0,1,2,6,10],[0,1,2,6,10]),([11],[11]),([12],[12]),([12],[12]),([],[]),([13,11,0,1,2,3,4,5,6,7,8,9,10,11,12,13,15],[13]),([15,14,16,0,1,2,3,4,5,6,7,8,9,10,11,12,13,14,15,16],[14,15])])
def Qx.B15:List Nat:=[0,0,0,0,0,24,56,0,0,384,896,2047,4095,8191,8191,0,49151,131071]
theorem Qx.tab15:rtab .any (qgo Try.f25 15)=Qx.T15:=by kernel_rfl
theorem Qx.bits15:U4 Qx.T15.2 Qx.B15=true:=by kernel_rfl
set_option maxHeartbeats 8000000 in
set_option maxRecDepth 100000 in
theorem Qx.calls (k:Nat) (QD:Option Addr) (Qu:Nat) (Qa:List Int) (QB:Option Addr) (Qv:Nat) (Qf:List Int) (QK:Option Addr) (Qw:Nat) (Qb:List Int) (Y0:Int) (QU:Int) (A1:Option Addr) (c1:Nat) (l1:List Int) (A2:Option Addr) (c2:Nat) (l2:List Int) (r1:List Int) (r2:Int) (w:World) (Gk:Kd.C (Kd.int .i64) w QD Qa.length Qa) (Gy:Qa.length≤Qu) (Gl:Kd.C (Kd.int .i64) w QB Qf.length Qf) (Gz:Qf.length≤Qv) (Gm:Kd.C (Kd.int .i64) w QK Qb.length Qb) (GA:Qb.length≤Qw) (hr1:Kd.C (Kd.int .i64) w A1 l1.length l1) (hc1:l1.length≤c1) (hr2:Kd.C (Kd.int .i64) w A2 l2.length l2) (hc2:l2.length≤c2) (h:Qx.f k Qa Qf Qb Y0 QU l1 l2=some (r1,r2)) :
  Calls Try.prog 25 #[.agg #[.slice QD Qa.length Qu,.slice QB Qf.length Qv,.slice QK Qb.length Qw,.int .i64 Y0,.int .i64 QU],.slice A1 l1.length c1,.slice A2 l2.length c2] w fun e w' => ∃ v0_:Value,e = .returned (.tuple #[v0_,.int .i64 r2])∧Kd.V (Kd.int .i64) 3 w' w.heap.size (fun k_=>(w.heap.size≤k_)) v0_ r1∧Below w.heap.size w w':=by
 have qlQ:=Try.underlying39
 have qq2:=Try.underlying111
 have qAX:=Try.underlying115
 have YV:=Q0.mk Gk
 have ZA:=Q0.mk Gy
 clear Gk Gy
 have Zj:=Q0.mk Gl
 have ZB:=Q0.mk Gz
 clear Gl Gz
 have Z5:=Q0.mk Gm
 have ZC:=Q0.mk GA
 clear Gm GA
 have HR1:=Q0.mk hr1
 have HC1:=Q0.mk hc1
 clear hr1 hc1
 have HR2:=Q0.mk hr2
 have HC2:=Q0.mk hc2
 clear hr2 hc2
 have HB:=Q0.mk (Below.refl w.heap.size w)
 have H:((Qi.f k Qa Qf Qb Y0 QU).bind fun t156=>(if t156=true then ((Qo.f (l1.length:Int) 1 10).bind fun t157=>(if t157=true then (Qx.j0 k l1 l2 ((l2.length:Int)==(l1.length:Int)) Qa Qf Qb Y0 QU) else (Qx.j0 k l1 l2 false Qa Qf Qb Y0 QU))) else (Qx.j0 k l1 l2 false Qa Qf Qb Y0 QU)))=some (r1,r2):=h
 clear h
 have HC4:=Q0.mk H
 clear H
 go_enter Try.func25,Try.ntmps25
 go_upto_region 2 with (first|((with_reducible refine QZ (N:=3) rfl ?_);(try (refine JI (by rfl) ?_;dsimp only));refine Yr ?hg (N:=3) ?hd (cs:=#[.slice QD Qa.length Qu,.slice QB Qf.length Qv,.slice QK Qb.length Qw,.int .i64 Y0,.int .i64 QU]) (t:=39) ?hr ?_;(case hd=>rfl);(case hg=>rfl);(case hr=>first|(go_simp;done)|(go_simp;rfl));intro Jx hg w5 hbox hb;have n0_:=Q0.mk (Qk (by repeat (first|(with_reducible first|exact HB.out|apply Q3|apply Q1|apply Q6)|exact HB.out)) hb);have n1_:=Q0.mk (hbox);have n2_:=Q0.mk ((by rw [hg];exact (Qh (by repeat (first|(with_reducible first|exact HB.out|apply Q3|apply Q1|apply Q6)|exact HB.out))):w.heap.size≤Jx));have n3_:=n2_;clear HB;have HB:=n0_;have YZ:=n1_;have qIw:=n2_;have Ju:=n3_;clear n0_ n1_ n2_ n3_ hb hbox hg;have qcn:w5.cell? ⟨Jx,0,none⟩=some (.slice QD Qa.length Qu):=(Q9 YZ.out 0).trans rfl;have qco:w5.cell? ⟨Jx,1,none⟩=some (.slice QB Qf.length Qv):=(Q9 YZ.out 1).trans rfl;have qek:w5.cell? ⟨Jx,2,none⟩=some (.slice QK Qb.length Qw):=(Q9 YZ.out 2).trans rfl;have qif:w5.cell? ⟨Jx,3,none⟩=some (.int .i64 Y0):=(Q9 YZ.out 3).trans rfl;have qig:w5.cell? ⟨Jx,4,none⟩=some (.int .i64 QU):=(Q9 YZ.out 4).trans rfl;have qcr:=Q8 YZ.out 0;have qcs:=Q8 YZ.out 1;have qel:=Q8 YZ.out 2;have qiF:=Q8 YZ.out 3;have qiG:=Q8 YZ.out 4)|((with_reducible refine QZ (N:=8) rfl ?_);(try (refine JI (by rfl) ?_;dsimp only));refine Yr ?hg (N:=8) ?hd (cs:=#[.slice none 0 0,.slice none 0 0,.slice none 0 0,.int .i64 0,.int .i64 0]) (t:=111) ?hr ?_;(case hd=>rfl);(case hg=>rfl);(case hr=>first|(go_simp;done)|(go_simp;rfl));intro Z4 hg w7 hbox hb;have n0_:=Q0.mk (Qg (g:=Jx) (by (with_reducible repeat (first|refine Q4 ?_ _|refine Q7 ?_|refine Q2 ?_ _));exact YZ.out) hb);have n1_:=Q0.mk (Qk (by repeat (first|(with_reducible first|exact HB.out|apply Q3|apply Q1|apply Q6|refine Q5 ?_ Ju.out)|exact HB.out)) hb);have n2_:=Q0.mk (hbox);have n3_:=Q0.mk ((by rw [hg];exact (Qh (by repeat (first|(with_reducible first|exact HB.out|apply Q3|apply Q1|apply Q6|refine Q5 ?_ Ju.out)|exact HB.out))):w.heap.size≤Z4));have n4_:=n3_;have n5_:=Q0.mk ((by rw [hg];exact Nat.ne_of_lt (QT (g:=Jx) (by (with_reducible repeat (first|refine Q4 ?_ _|refine Q7 ?_|refine Q2 ?_ _));exact YZ.out)):Jx≠Z4));have n6_:=Q0.mk (n5_.out.symm);clear YZ HB;have YZ:=n0_;have HB:=n1_;have Yd:=n2_;have qIx:=n3_;have JF:=n4_;have Jh:=n5_;have XB:=n6_;clear n0_ n1_ n2_ n3_ n4_ n5_ n6_ hb hbox hg;have qK2:=XB.out;have qK3:=Jh.out;have Oz:w7.cell? ⟨Z4,0,none⟩=some (.slice none 0 0):=(Q9 Yd.out 0).trans rfl;have OA:w7.cell? ⟨Z4,1,none⟩=some (.slice none 0 0):=(Q9 Yd.out 1).trans rfl;have OB:w7.cell? ⟨Z4,2,none⟩=some (.slice none 0 0):=(Q9 Yd.out 2).trans rfl;have qil:w7.cell? ⟨Z4,3,none⟩=some (.int .i64 0):=(Q9 Yd.out 3).trans rfl;have qim:w7.cell? ⟨Z4,4,none⟩=some (.int .i64 0):=(Q9 Yd.out 4).trans rfl;have OC:=Q8 Yd.out 0;have OD:=Q8 Yd.out 1;have OE:=Q8 Yd.out 2;have qiL:=Q8 Yd.out 3;have qiM:=Q8 Yd.out 4))
 (try simp only [Act.put,List.setIfInBounds_toArray,List.set_cons_zero,List.set_cons_succ])
 go_cut [9] (fun v9 wc => ∃ (kq:Nat) (quz:Bool),v9 = .bool quz∧Q0 (Qx.j0 kq l1 l2 quz Qa Qf Qb Y0 QU=some (r1,r2))∧Q0 (kq≤k)∧Q0 (wc.heap[Jx]? = some (.cells #[(.slice QD Qa.length Qu),(.slice QB Qf.length Qv),(.slice QK Qb.length Qw),.int .i64 Y0,.int .i64 QU] 39 (0,0)))∧Q0 (wc.heap[Z4]? = some (.cells #[(.slice QD Qa.length Qu),(.slice QB Qf.length Qv),(.slice QK Qb.length Qw),.int .i64 Y0,.int .i64 QU] 111 (0,0)))∧Q0 (Below w.heap.size w wc))
 case first =>
  have H:=HC4.out
  clear HC4
  replace H:=Option.bind_eq_some_iff.mp H
  obtain ⟨t156,qpl,H⟩:=H
  replace H:(if t156=true then ((Qo.f (l1.length:Int) 1 10).bind fun t157=>(if t157=true then (Qx.j0 k l1 l2 ((l2.length:Int)==(l1.length:Int)) Qa Qf Qb Y0 QU) else (Qx.j0 k l1 l2 false Qa Qf Qb Y0 QU))) else (Qx.j0 k l1 l2 false Qa Qf Qb Y0 QU))=some (r1,r2):=H
  have A10:=Q0.mk qpl
  clear qpl
  by_cases c11:t156=true
  ·
   subst c11
   have H1:((Qo.f (l1.length:Int) 1 10).bind fun t157=>(if t157=true then (Qx.j0 k l1 l2 ((l2.length:Int)==(l1.length:Int)) Qa Qf Qb Y0 QU) else (Qx.j0 k l1 l2 false Qa Qf Qb Y0 QU)))=some (r1,r2):=by rw [if_pos rfl] at H;exact H
   clear H
   have H:=H1
   clear H1
   replace H:=Option.bind_eq_some_iff.mp H
   obtain ⟨t157,qfZ,H⟩:=H
   replace H:(if t157=true then (Qx.j0 k l1 l2 ((l2.length:Int)==(l1.length:Int)) Qa Qf Qb Y0 QU) else (Qx.j0 k l1 l2 false Qa Qf Qb Y0 QU))=some (r1,r2):=H
   have A12:=Q0.mk qfZ
   clear qfZ
   by_cases c13:t157=true
   ·
    subst c13
    have H1:(Qx.j0 k l1 l2 ((l2.length:Int)==(l1.length:Int)) Qa Qf Qb Y0 QU)=some (r1,r2):=by rw [if_pos rfl] at H;exact H
    clear H;have H:=H1;clear H1;have H':=Q0.mk H;clear H;have qAg:=XB.out;have qAA:=Jh.out;have JO:w7.cell? ⟨Z4,0,none⟩=some (.slice none 0 0):=(Q9 Yd.out 0).trans rfl;have JP:w7.cell? ⟨Z4,1,none⟩=some (.slice none 0 0):=(Q9 Yd.out 1).trans rfl;have JX:w7.cell? ⟨Z4,2,none⟩=some (.slice none 0 0):=(Q9 Yd.out 2).trans rfl;have X6:w7.cell? ⟨Z4,3,none⟩=some (.int .i64 0):=(Q9 Yd.out 3).trans rfl;have X7:w7.cell? ⟨Z4,4,none⟩=some (.int .i64 0):=(Q9 Yd.out 4).trans rfl;have JQ:=Q8 Yd.out 0;have JU:=Q8 Yd.out 1;have JY:=Q8 Yd.out 2;have Xb:=Q8 Yd.out 3;have Xc:=Q8 Yd.out 4
    go_wp2_with (first|((with_reducible refine QG (f:=76) rfl ?_);refine YF (some 20) rfl rfl Try.func76 (by kernel_rfl) rfl #[.agg #[.slice QD Qa.length Qu,.slice QB Qf.length Qv,.slice QK Qb.length Qw,.int .i64 Y0,.int .i64 QU]] rfl (by (try simp only [List.map_toArray,List.map_cons,List.map_nil]);first|done|rfl|(simp only [List.length_drop,List.length_take];rfl)) ?_;(with_reducible refine (Qi.calls k _ _ Qa _ _ Qf _ _ Qb Y0 QU true _ ?side1 ?side2 ?side3 ?side4 ?side5 ?side6 A10.out).mono ?_);(case side1=>exact Kd.C_below YV.out (by repeat (first|(with_reducible first|exact HB.out|apply Q3|apply Q1|apply Q6|refine Q5 ?_ Ju.out|refine Q5 ?_ JF.out)|exact HB.out)));(case side2=>exact ZA.out);(case side3=>exact Kd.C_below Zj.out (by repeat (first|(with_reducible first|exact HB.out|apply Q3|apply Q1|apply Q6|refine Q5 ?_ Ju.out|refine Q5 ?_ JF.out)|exact HB.out)));(case side4=>exact ZB.out);(case side5=>exact Kd.C_below Z5.out (by repeat (first|(with_reducible first|exact HB.out|apply Q3|apply Q1|apply Q6|refine Q5 ?_ Ju.out|refine Q5 ?_ JF.out)|exact HB.out)));(case side6=>exact ZC.out);rintro e w16 ⟨rfl,hb⟩;refine ⟨_,rfl,?_⟩;have n0_:=Q0.mk (Qg (g:=Jx) (o:=.cells #[.slice QD Qa.length Qu,.slice QB Qf.length Qv,.slice QK Qb.length Qw,.int .i64 Y0,.int .i64 QU] 39 (0,0)) (by (with_reducible repeat (first|refine Q4 ?_ _|refine Q7 ?_|refine Q2 ?_ _));refine Qr ?_ Jh.out _;(with_reducible repeat (first|refine Q4 ?_ _|refine Q7 ?_|refine Q2 ?_ _));refine Qr ?_ Jh.out _;(with_reducible repeat (first|refine Q4 ?_ _|refine Q7 ?_|refine Q2 ?_ _));refine Qr ?_ Jh.out _;(with_reducible repeat (first|refine Q4 ?_ _|refine Q7 ?_|refine Q2 ?_ _));refine Qr ?_ Jh.out _;(with_reducible repeat (first|refine Q4 ?_ _|refine Q7 ?_|refine Q2 ?_ _));refine Qr ?_ Jh.out _;(with_reducible repeat (first|refine Q4 ?_ _|refine Q7 ?_|refine Q2 ?_ _));exact YZ.out) hb);have n1_:=Q0.mk (Qg (g:=Z4) (o:=.cells #[.slice QD Qa.length Qu,.slice QB Qf.length Qv,.slice QK Qb.length Qw,.int .i64 Y0,.int .i64 QU] 111 (0,0)) (by (with_reducible repeat (first|refine Q4 ?_ _|refine Q7 ?_|refine Q2 ?_ _));refine QI (cs:=#[.slice QD Qa.length Qu,.slice QB Qf.length Qv,.slice QK Qb.length Qw,.int .i64 Y0,.int .i64 0]) ?_ 4 _ rfl;(with_reducible repeat (first|refine Q4 ?_ _|refine Q7 ?_|refine Q2 ?_ _));refine QI (cs:=#[.slice QD Qa.length Qu,.slice QB Qf.length Qv,.slice QK Qb.length Qw,.int .i64 0,.int .i64 0]) ?_ 3 _ rfl;(with_reducible repeat (first|refine Q4 ?_ _|refine Q7 ?_|refine Q2 ?_ _));refine QI (cs:=#[.slice QD Qa.length Qu,.slice QB Qf.length Qv,.slice none 0 0,.int .i64 0,.int .i64 0]) ?_ 2 _ rfl;(with_reducible repeat (first|refine Q4 ?_ _|refine Q7 ?_|refine Q2 ?_ _));refine QI (cs:=#[.slice QD Qa.length Qu,.slice none 0 0,.slice none 0 0,.int .i64 0,.int .i64 0]) ?_ 1 _ rfl;(with_reducible repeat (first|refine Q4 ?_ _|refine Q7 ?_|refine Q2 ?_ _));refine QI (cs:=#[.slice none 0 0,.slice none 0 0,.slice none 0 0,.int .i64 0,.int .i64 0]) ?_ 0 _ rfl;(with_reducible repeat (first|refine Q4 ?_ _|refine Q7 ?_|refine Q2 ?_ _));exact Yd.out) hb);have n2_:=Q0.mk (Qk (by repeat (first|(with_reducible first|exact HB.out|apply Q3|apply Q1|apply Q6|refine Q5 ?_ Ju.out|refine Q5 ?_ JF.out)|exact HB.out)) hb);clear YZ Yd HB;have YZ:=n0_;have Yd:=n1_;have HB:=n2_;clear n0_ n1_ n2_;(try clear hb);(try clear hb2);(try clear hk);(try clear hi))|(go_at_call 65;(with_reducible refine (Qo.calls (l1.length:Int) 1 10 true _ A12.out).mono ?_);rintro e w' ⟨rfl,⟨nd,rfl⟩⟩))
    go_meet
    case rel=>exact ⟨_,(((l2.length:Int)==(l1.length:Int))),(by first|rfl|(simp;done)|(simp [*];done)),H',⟨by first|omega|exact Nat.le_refl _⟩,⟨by (with_reducible repeat (first|refine Q4 ?_ _|refine Q7 ?_|refine Q2 ?_ _));exact YZ.out⟩,⟨by (with_reducible repeat (first|refine Q4 ?_ _|refine Q7 ?_|refine Q2 ?_ _));exact Yd.out⟩,⟨by repeat (first|(with_reducible first|exact HB.out|apply Q3|apply Q1|apply Q6|refine Q5 ?_ Ju.out|refine Q5 ?_ JF.out)|exact HB.out)⟩⟩
   replace c13:=Bool.eq_false_iff.mpr c13
   subst c13
   have H1:(Qx.j0 k l1 l2 false Qa Qf Qb Y0 QU)=some (r1,r2):=by rw [if_neg (show ¬ (false=true) by decide)] at H;exact H
   clear H
   have H:=H1
   clear H1
   have H':=Q0.mk H
   clear H
   have qAi:=XB.out
   have qAC:=Jh.out
   have GZ:w7.cell? ⟨Z4,0,none⟩=some (.slice none 0 0):=(Q9 Yd.out 0).trans rfl
   have K0:w7.cell? ⟨Z4,1,none⟩=some (.slice none 0 0):=(Q9 Yd.out 1).trans rfl
   have K1:w7.cell? ⟨Z4,2,none⟩=some (.slice none 0 0):=(Q9 Yd.out 2).trans rfl
   have qeV:w7.cell? ⟨Z4,3,none⟩=some (.int .i64 0):=(Q9 Yd.out 3).trans rfl
   have qeW:w7.cell? ⟨Z4,4,none⟩=some (.int .i64 0):=(Q9 Yd.out 4).trans rfl
   have Kb:=Q8 Yd.out 0
   have Ke:=Q8 Yd.out 1
   have Kf:=Q8 Yd.out 2
   have qff:=Q8 Yd.out 3
   have qfg:=Q8 Yd.out 4
   go_wp2_with (first|((with_reducible refine QG (f:=76) rfl ?_);refine YF (some 20) rfl rfl Try.func76 (by kernel_rfl) rfl #[.agg #[.slice QD Qa.length Qu,.slice QB Qf.length Qv,.slice QK Qb.length Qw,.int .i64 Y0,.int .i64 QU]] rfl (by (try simp only [List.map_toArray,List.map_cons,List.map_nil]);first|done|rfl|(simp only [List.length_drop,List.length_take];rfl)) ?_;(with_reducible refine (Qi.calls k _ _ Qa _ _ Qf _ _ Qb Y0 QU true _ ?side1 ?side2 ?side3 ?side4 ?side5 ?side6 A10.out).mono ?_);(case side1=>exact Kd.C_below YV.out (by repeat (first|(with_reducible first|exact HB.out|apply Q3|apply Q1|apply Q6|refine Q5 ?_ Ju.out|refine Q5 ?_ JF.out)|exact HB.out)));(case side2=>exact ZA.out);(case side3=>exact Kd.C_below Zj.out (by repeat (first|(with_reducible first|exact HB.out|apply Q3|apply Q1|apply Q6|refine Q5 ?_ Ju.out|refine Q5 ?_ JF.out)|exact HB.out)));(case side4=>exact ZB.out);(case side5=>exact Kd.C_below Z5.out (by repeat (first|(with_reducible first|exact HB.out|apply Q3|apply Q1|apply Q6|refine Q5 ?_ Ju.out|refine Q5 ?_ JF.out)|exact HB.out)));(case side6=>exact ZC.out);rintro e w19 ⟨rfl,hb⟩;refine ⟨_,rfl,?_⟩;have n0_:=Q0.mk (Qg (g:=Jx) (o:=.cells #[.slice QD Qa.length Qu,.slice QB Qf.length Qv,.slice QK Qb.length Qw,.int .i64 Y0,.int .i64 QU] 39 (0,0)) (by (with_reducible repeat (first|refine Q4 ?_ _|refine Q7 ?_|refine Q2 ?_ _));refine Qr ?_ Jh.out _;(with_reducible repeat (first|refine Q4 ?_ _|refine Q7 ?_|refine Q2 ?_ _));refine Qr ?_ Jh.out _;(with_reducible repeat (first|refine Q4 ?_ _|refine Q7 ?_|refine Q2 ?_ _));refine Qr ?_ Jh.out _;(with_reducible repeat (first|refine Q4 ?_ _|refine Q7 ?_|refine Q2 ?_ _));refine Qr ?_ Jh.out _;(with_reducible repeat (first|refine Q4 ?_ _|refine Q7 ?_|refine Q2 ?_ _));refine Qr ?_ Jh.out _;(with_reducible repeat (first|refine Q4 ?_ _|refine Q7 ?_|refine Q2 ?_ _));exact YZ.out) hb);have n1_:=Q0.mk (Qg (g:=Z4) (o:=.cells #[.slice QD Qa.length Qu,.slice QB Qf.length Qv,.slice QK Qb.length Qw,.int .i64 Y0,.int .i64 QU] 111 (0,0)) (by (with_reducible repeat (first|refine Q4 ?_ _|refine Q7 ?_|refine Q2 ?_ _));refine QI (cs:=#[.slice QD Qa.length Qu,.slice QB Qf.length Qv,.slice QK Qb.length Qw,.int .i64 Y0,.int .i64 0]) ?_ 4 _ rfl;(with_reducible repeat (first|refine Q4 ?_ _|refine Q7 ?_|refine Q2 ?_ _));refine QI (cs:=#[.slice QD Qa.length Qu,.slice QB Qf.length Qv,.slice QK Qb.length Qw,.int .i64 0,.int .i64 0]) ?_ 3 _ rfl;(with_reducible repeat (first|refine Q4 ?_ _|refine Q7 ?_|refine Q2 ?_ _));refine QI (cs:=#[.slice QD Qa.length Qu,.slice QB Qf.length Qv,.slice none 0 0,.int .i64 0,.int .i64 0]) ?_ 2 _ rfl;(with_reducible repeat (first|refine Q4 ?_ _|refine Q7 ?_|refine Q2 ?_ _));refine QI (cs:=#[.slice QD Qa.length Qu,.slice none 0 0,.slice none 0 0,.int .i64 0,.int .i64 0]) ?_ 1 _ rfl;(with_reducible repeat (first|refine Q4 ?_ _|refine Q7 ?_|refine Q2 ?_ _));refine QI (cs:=#[.slice none 0 0,.slice none 0 0,.slice none 0 0,.int .i64 0,.int .i64 0]) ?_ 0 _ rfl;(with_reducible repeat (first|refine Q4 ?_ _|refine Q7 ?_|refine Q2 ?_ _));exact Yd.out) hb);have n2_:=Q0.mk (Qk (by repeat (first|(with_reducible first|exact HB.out|apply Q3|apply Q1|apply Q6|refine Q5 ?_ Ju.out|refine Q5 ?_ JF.out)|exact HB.out)) hb);clear YZ Yd HB;have YZ:=n0_;have Yd:=n1_;have HB:=n2_;clear n0_ n1_ n2_;(try clear hb);(try clear hb2);(try clear hk);(try clear hi))|(go_at_call 65;(with_reducible refine (Qo.calls (l1.length:Int) 1 10 false _ A12.out).mono ?_);rintro e w' ⟨rfl,⟨nd,rfl⟩⟩))
   go_meet
   case rel=>exact ⟨_,(false),(by first|rfl|(simp;done)|(simp [*];done)),H',⟨by first|omega|exact Nat.le_refl _⟩,⟨by (with_reducible repeat (first|refine Q4 ?_ _|refine Q7 ?_|refine Q2 ?_ _));exact YZ.out⟩,⟨by (with_reducible repeat (first|refine Q4 ?_ _|refine Q7 ?_|refine Q2 ?_ _));exact Yd.out⟩,⟨by repeat (first|(with_reducible first|exact HB.out|apply Q3|apply Q1|apply Q6|refine Q5 ?_ Ju.out|refine Q5 ?_ JF.out)|exact HB.out)⟩⟩
  replace c11:=Bool.eq_false_iff.mpr c11
  subst c11
  have H1:(Qx.j0 k l1 l2 false Qa Qf Qb Y0 QU)=some (r1,r2):=by rw [if_neg (show ¬ (false=true) by decide)] at H;exact H
  clear H
  have H:=H1
  clear H1
  have H':=Q0.mk H
  clear H
  have qAj:=XB.out
  have qAD:=Jh.out
  have W5:w7.cell? ⟨Z4,0,none⟩=some (.slice none 0 0):=(Q9 Yd.out 0).trans rfl
  have W6:w7.cell? ⟨Z4,1,none⟩=some (.slice none 0 0):=(Q9 Yd.out 1).trans rfl
  have W7:w7.cell? ⟨Z4,2,none⟩=some (.slice none 0 0):=(Q9 Yd.out 2).trans rfl
  have qeX:w7.cell? ⟨Z4,3,none⟩=some (.int .i64 0):=(Q9 Yd.out 3).trans rfl
  have qeY:w7.cell? ⟨Z4,4,none⟩=some (.int .i64 0):=(Q9 Yd.out 4).trans rfl
  have Wc:=Q8 Yd.out 0
  have Wd:=Q8 Yd.out 1
  have Wg:=Q8 Yd.out 2
  have qfh:=Q8 Yd.out 3
  have qfi:=Q8 Yd.out 4
  go_wp2_with (first|((with_reducible refine QG (f:=76) rfl ?_);refine YF (some 20) rfl rfl Try.func76 (by kernel_rfl) rfl #[.agg #[.slice QD Qa.length Qu,.slice QB Qf.length Qv,.slice QK Qb.length Qw,.int .i64 Y0,.int .i64 QU]] rfl (by (try simp only [List.map_toArray,List.map_cons,List.map_nil]);first|done|rfl|(simp only [List.length_drop,List.length_take];rfl)) ?_;(with_reducible refine (Qi.calls k _ _ Qa _ _ Qf _ _ Qb Y0 QU false _ ?side1 ?side2 ?side3 ?side4 ?side5 ?side6 A10.out).mono ?_);(case side1=>exact Kd.C_below YV.out (by repeat (first|(with_reducible first|exact HB.out|apply Q3|apply Q1|apply Q6|refine Q5 ?_ Ju.out|refine Q5 ?_ JF.out)|exact HB.out)));(case side2=>exact ZA.out);(case side3=>exact Kd.C_below Zj.out (by repeat (first|(with_reducible first|exact HB.out|apply Q3|apply Q1|apply Q6|refine Q5 ?_ Ju.out|refine Q5 ?_ JF.out)|exact HB.out)));(case side4=>exact ZB.out);(case side5=>exact Kd.C_below Z5.out (by repeat (first|(with_reducible first|exact HB.out|apply Q3|apply Q1|apply Q6|refine Q5 ?_ Ju.out|refine Q5 ?_ JF.out)|exact HB.out)));(case side6=>exact ZC.out);rintro e w22 ⟨rfl,hb⟩;refine ⟨_,rfl,?_⟩;have n0_:=Q0.mk (Qg (g:=Jx) (o:=.cells #[.slice QD Qa.length Qu,.slice QB Qf.length Qv,.slice QK Qb.length Qw,.int .i64 Y0,.int .i64 QU] 39 (0,0)) (by (with_reducible repeat (first|refine Q4 ?_ _|refine Q7 ?_|refine Q2 ?_ _));refine Qr ?_ Jh.out _;(with_reducible repeat (first|refine Q4 ?_ _|refine Q7 ?_|refine Q2 ?_ _));refine Qr ?_ Jh.out _;(with_reducible repeat (first|refine Q4 ?_ _|refine Q7 ?_|refine Q2 ?_ _));refine Qr ?_ Jh.out _;(with_reducible repeat (first|refine Q4 ?_ _|refine Q7 ?_|refine Q2 ?_ _));refine Qr ?_ Jh.out _;(with_reducible repeat (first|refine Q4 ?_ _|refine Q7 ?_|refine Q2 ?_ _));refine Qr ?_ Jh.out _;(with_reducible repeat (first|refine Q4 ?_ _|refine Q7 ?_|refine Q2 ?_ _));exact YZ.out) hb);have n1_:=Q0.mk (Qg (g:=Z4) (o:=.cells #[.slice QD Qa.length Qu,.slice QB Qf.length Qv,.slice QK Qb.length Qw,.int .i64 Y0,.int .i64 QU] 111 (0,0)) (by (with_reducible repeat (first|refine Q4 ?_ _|refine Q7 ?_|refine Q2 ?_ _));refine QI (cs:=#[.slice QD Qa.length Qu,.slice QB Qf.length Qv,.slice QK Qb.length Qw,.int .i64 Y0,.int .i64 0]) ?_ 4 _ rfl;(with_reducible repeat (first|refine Q4 ?_ _|refine Q7 ?_|refine Q2 ?_ _));refine QI (cs:=#[.slice QD Qa.length Qu,.slice QB Qf.length Qv,.slice QK Qb.length Qw,.int .i64 0,.int .i64 0]) ?_ 3 _ rfl;(with_reducible repeat (first|refine Q4 ?_ _|refine Q7 ?_|refine Q2 ?_ _));refine QI (cs:=#[.slice QD Qa.length Qu,.slice QB Qf.length Qv,.slice none 0 0,.int .i64 0,.int .i64 0]) ?_ 2 _ rfl;(with_reducible repeat (first|refine Q4 ?_ _|refine Q7 ?_|refine Q2 ?_ _));refine QI (cs:=#[.slice QD Qa.length Qu,.slice none 0 0,.slice none 0 0,.int .i64 0,.int .i64 0]) ?_ 1 _ rfl;(with_reducible repeat (first|refine Q4 ?_ _|refine Q7 ?_|refine Q2 ?_ _));refine QI (cs:=#[.slice none 0 0,.slice none 0 0,.slice none 0 0,.int .i64 0,.int .i64 0]) ?_ 0 _ rfl;(with_reducible repeat (first|refine Q4 ?_ _|refine Q7 ?_|refine Q2 ?_ _));exact Yd.out) hb);have n2_:=Q0.mk (Qk (by repeat (first|(with_reducible first|exact HB.out|apply Q3|apply Q1|apply Q6|refine Q5 ?_ Ju.out|refine Q5 ?_ JF.out)|exact HB.out)) hb);clear YZ Yd HB;have YZ:=n0_;have Yd:=n1_;have HB:=n2_;clear n0_ n1_ n2_;(try clear hb);(try clear hb2);(try clear hk);(try clear hi)))
  go_meet
  case rel=>exact ⟨_,(false),(by first|rfl|(simp;done)|(simp [*];done)),H',⟨by first|omega|exact Nat.le_refl _⟩,⟨by (with_reducible repeat (first|refine Q4 ?_ _|refine Q7 ?_|refine Q2 ?_ _));exact YZ.out⟩,⟨by (with_reducible repeat (first|refine Q4 ?_ _|refine Q7 ?_|refine Q2 ?_ _));exact Yd.out⟩,⟨by repeat (first|(with_reducible first|exact HB.out|apply Q3|apply Q1|apply Q6|refine Q5 ?_ Ju.out|refine Q5 ?_ JF.out)|exact HB.out)⟩⟩
 case rest =>
  clear HC4
  try clear c1
  try clear c2
  try clear p2
  try clear c7
  try clear c8
  try clear c11
  try clear c13
  try clear c14
  try clear c17
  try clear c20
  try clear JO
  try clear JP
  try clear JX
  try clear X6
  try clear X7
  try clear GZ
  try clear K0
  try clear K1
  try clear qeV
  try clear qeW
  try clear W5
  try clear W6
  try clear W7
  try clear qeX
  try clear qeY
  try clear qcn
  try clear qco
  try clear qek
  try clear qif
  try clear qig
  try clear Oz
  try clear OA
  try clear OB
  try clear qil
  try clear qim
  try clear JQ
  try clear JU
  try clear JY
  try clear Xb
  try clear Xc
  try clear Kb
  try clear Ke
  try clear Kf
  try clear qff
  try clear qfg
  try clear Wc
  try clear Wd
  try clear Wg
  try clear qfh
  try clear qfi
  try clear qcr
  try clear qcs
  try clear qel
  try clear qiF
  try clear qiG
  try clear OC
  try clear OD
  try clear OE
  try clear qiL
  try clear qiM
  obtain ⟨kq,quz,rfl,HA,HJ3,YZ,Yd,HB⟩:=hcut
  cases kq with
  | zero=>exact absurd HA.out (by simp [Qx.j0])
  | succ kj3 =>
   have H:=HA.out
   clear HA
   simp only [Qx.j0] at H
   have H':=Q0.mk H
   clear H
   go_wp2
   go_loopg [9,10] kj3 (fun kq v9 v10 w' => ∃ (qmI:Bool) (Jn:Int),v9 = .bool qmI∧v10 = .int .i64 Jn∧Q0 (Qx.l0 kq l1 l2 qmI Jn Qa Qf Qb Y0 QU=some (r1,r2))∧Q0 (kq≤kj3)∧Q0 (w'.heap[Jx]? = some (.cells #[(.slice QD Qa.length Qu),(.slice QB Qf.length Qv),(.slice QK Qb.length Qw),.int .i64 Y0,.int .i64 QU] 39 (0,0)))∧Q0 (w'.heap[Z4]? = some (.cells #[(.slice QD Qa.length Qu),(.slice QB Qf.length Qv),(.slice QK Qb.length Qw),.int .i64 Y0,.int .i64 QU] 111 (0,0)))∧Q0 (Below w.heap.size w w'))
   case atStart=>exact ⟨(quz),(0),(by first|rfl|(simp;done)|(simp [*];done)),(by first|rfl|(simp;done)|(simp [*];done)),H',⟨Nat.le_refl _⟩,⟨by (with_reducible repeat (first|refine Q4 ?_ _|refine Q7 ?_|refine Q2 ?_ _));exact YZ.out⟩,⟨by (with_reducible repeat (first|refine Q4 ?_ _|refine Q7 ?_|refine Q2 ?_ _));exact Yd.out⟩,⟨by repeat (first|(with_reducible first|exact HB.out|apply Q3|apply Q1|apply Q6|refine Q5 ?_ Ju.out|refine Q5 ?_ JF.out)|exact HB.out)⟩⟩
   case round =>
    clear H';(try clear c1);(try clear c2);(try clear p2);(try clear c7);(try clear c8);(try clear c11);(try clear c13);(try clear c14);(try clear c17);(try clear c20);(try clear JO);(try clear JP);(try clear JX);(try clear X6);(try clear X7);(try clear GZ);(try clear K0);(try clear K1);(try clear qeV);(try clear qeW);(try clear W5);(try clear W6);(try clear W7);(try clear qeX);(try clear qeY);(try clear qcn);(try clear qco);(try clear qek);(try clear qif);(try clear qig);(try clear Oz);(try clear OA);(try clear OB);(try clear qil);(try clear qim);(try clear JQ);(try clear JU);(try clear JY);(try clear Xb);(try clear Xc);(try clear Kb);(try clear Ke);(try clear Kf);(try clear qff);(try clear qfg);(try clear Wc);(try clear Wd);(try clear Wg);(try clear qfh);(try clear qfi);(try clear qcr);(try clear qcs);(try clear qel);(try clear qiF);(try clear qiG);(try clear OC);(try clear OD);(try clear OE);(try clear qiL);(try clear qiM);(try clear p2);obtain ⟨qmI,Jn,rfl,rfl,HA,HK2,YZ,Yd,HB⟩:=hrel
    cases gk with
    | zero=>exact absurd HA.out (by simp [Qx.l0])
    | succ k2 =>
     have H:=HA.out;clear HA;simp only [Qx.l0] at H;have qlp:=Q0.mk H;clear H
     go_upto_region 4 with (fail)
     go_cut [39] (fun v39 wc => ∃ (kq:Nat) (qjs:Bool),v39 = .bool qjs∧Q0 (Qx.j2 kq l1 l2 qmI Jn qjs Qa Qf Qb Y0 QU=some (r1,r2))∧Q0 (kq≤k2)∧Q0 (wc.heap[Jx]? = some (.cells #[(.slice QD Qa.length Qu),(.slice QB Qf.length Qv),(.slice QK Qb.length Qw),.int .i64 Y0,.int .i64 QU] 39 (0,0)))∧Q0 (wc.heap[Z4]? = some (.cells #[(.slice QD Qa.length Qu),(.slice QB Qf.length Qv),(.slice QK Qb.length Qw),.int .i64 Y0,.int .i64 QU] 111 (0,0)))∧Q0 (Below w.heap.size w wc))
     case first =>
      have H:=qlp.out;clear qlp
      by_cases c24:qmI=true
      ·
       subst c24
       have H1:(Qx.j2 k2 l1 l2 true Jn (decide (Jn<(l1.length:Int))) Qa Qf Qb Y0 QU)=some (r1,r2):=by rw [if_pos rfl] at H;exact H
       clear H;have H:=H1;clear H1;have H':=Q0.mk H;clear H
       go_wp2
       go_meet
       case rel=>exact ⟨_,(decide (Jn<(l1.length:Int))),(by first|rfl|(simp;done)|(simp [*];done)),H',⟨by have:=HJ3.out;have:=HK2.out;first|omega|exact Nat.le_refl _⟩,⟨by (with_reducible repeat (first|refine Q4 ?_ _|refine Q7 ?_|refine Q2 ?_ _));exact YZ.out⟩,⟨by (with_reducible repeat (first|refine Q4 ?_ _|refine Q7 ?_|refine Q2 ?_ _));exact Yd.out⟩,⟨by repeat (first|(with_reducible first|exact HB.out|apply Q3|apply Q1|apply Q6|refine Q5 ?_ Ju.out|refine Q5 ?_ JF.out)|exact HB.out)⟩⟩
      replace c24:=Bool.eq_false_iff.mpr c24;subst c24
      have H1:(Qx.j2 k2 l1 l2 false Jn false Qa Qf Qb Y0 QU)=some (r1,r2):=by rw [if_neg (show ¬ (false=true) by decide)] at H;exact H
      clear H;have H:=H1;clear H1;have H':=Q0.mk H;clear H
      go_wp2
      go_meet
      case rel=>exact ⟨_,(false),(by first|rfl|(simp;done)|(simp [*];done)),H',⟨by have:=HJ3.out;have:=HK2.out;first|omega|exact Nat.le_refl _⟩,⟨by (with_reducible repeat (first|refine Q4 ?_ _|refine Q7 ?_|refine Q2 ?_ _));exact YZ.out⟩,⟨by (with_reducible repeat (first|refine Q4 ?_ _|refine Q7 ?_|refine Q2 ?_ _));exact Yd.out⟩,⟨by repeat (first|(with_reducible first|exact HB.out|apply Q3|apply Q1|apply Q6|refine Q5 ?_ Ju.out|refine Q5 ?_ JF.out)|exact HB.out)⟩⟩
     case rest =>
      clear qlp;(try clear c1);(try clear c2);(try clear p2);(try clear c7);(try clear c8);(try clear c11);(try clear c13);(try clear c14);(try clear c17);(try clear c20);(try clear c24);(try clear JO);(try clear JP);(try clear JX);(try clear X6);(try clear X7);(try clear GZ);(try clear K0);(try clear K1);(try clear qeV);(try clear qeW);(try clear W5);(try clear W6);(try clear W7);(try clear qeX);(try clear qeY);(try clear qcn);(try clear qco);(try clear qek);(try clear qif);(try clear qig);(try clear Oz);(try clear OA);(try clear OB);(try clear qil);(try clear qim);(try clear JQ);(try clear JU);(try clear JY);(try clear Xb);(try clear Xc);(try clear Kb);(try clear Ke);(try clear Kf);(try clear qff);(try clear qfg);(try clear Wc);(try clear Wd);(try clear Wg);(try clear qfh);(try clear qfi);(try clear qcr);(try clear qcs);(try clear qel);(try clear qiF);(try clear qiG);(try clear OC);(try clear OD);(try clear OE);(try clear qiL);(try clear qiM);(try clear p2);obtain ⟨kq,qjs,rfl,HA,Xp,YZ,Yd,HB⟩:=hcut
      cases kq with
      | zero=>exact absurd HA.out (by simp [Qx.j2])
      | succ qaU =>
       have H:=HA.out;clear HA;simp only [Qx.j2] at H
       by_cases c25:qjs=true
       ·
        subst c25
        have H1:(if 0≤Jn then (if Jn<(l1.length:Int) then ((Qo.f (rd l1 Jn) 0 100000000).bind fun t159=>(if t159=true then (if Jn<(l2.length:Int) then ((Qo.f (rd l2 Jn) 0 100000).bind fun qgJ=>(Qx.l0 qaU l1 l2 qgJ (wrap64 (Jn+1)) Qa Qf Qb Y0 QU)) else (none)) else (Qx.l0 qaU l1 l2 false (wrap64 (Jn+1)) Qa Qf Qb Y0 QU))) else (none)) else (none))=some (r1,r2):=by rw [if_pos rfl] at H;exact H
        clear H;have H:=H1;clear H1
        by_cases c26:0≤Jn
        ·
         rw [if_pos c26] at H;have c26b0:decide (0≤Jn)=true:=decide_eq_true c26;clear c26
         by_cases c27:Jn<(l1.length:Int)
         ·
          rw [if_pos c27] at H;have c27b0:decide (Jn<(l1.length:Int))=true:=decide_eq_true c27;clear c27;replace H:=Option.bind_eq_some_iff.mp H;obtain ⟨t159,qxt,H⟩:=H;replace H:(if t159=true then (if Jn<(l2.length:Int) then ((Qo.f (rd l2 Jn) 0 100000).bind fun qgJ=>(Qx.l0 qaU l1 l2 qgJ (wrap64 (Jn+1)) Qa Qf Qb Y0 QU)) else (none)) else (Qx.l0 qaU l1 l2 false (wrap64 (Jn+1)) Qa Qf Qb Y0 QU))=some (r1,r2):=H;have A28:=Q0.mk qxt;clear qxt
          by_cases c29:t159=true
          ·
           subst c29
           have H1:(if Jn<(l2.length:Int) then ((Qo.f (rd l2 Jn) 0 100000).bind fun qgJ=>(Qx.l0 qaU l1 l2 qgJ (wrap64 (Jn+1)) Qa Qf Qb Y0 QU)) else (none))=some (r1,r2):=by rw [if_pos rfl] at H;exact H
           clear H;have H:=H1;clear H1
           by_cases c30:Jn<(l2.length:Int)
           ·
            rw [if_pos c30] at H;have c30b0:decide (Jn<(l2.length:Int))=true:=decide_eq_true c30;clear c30;replace H:=Option.bind_eq_some_iff.mp H;obtain ⟨qgJ,qpq,H⟩:=H;replace H:(Qx.l0 qaU l1 l2 qgJ (wrap64 (Jn+1)) Qa Qf Qb Y0 QU)=some (r1,r2):=H;have A31:=Q0.mk qpq;clear qpq;have H':=Q0.mk H;clear H;have qkF:0≤(Jn:Int):=of_decide_eq_true (by first|(with_reducible assumption)|assumption);have qkH:Jn<(l1.length:Int):=of_decide_eq_true (by first|(with_reducible assumption)|assumption);obtain ⟨qyi,qwi,Xd⟩:=Kd.at_int HR1.out Jn qkF qkH;cases qwi;replace Xd:=(HB.out.cell (World.block_lt_of_cell? w _ Xd)).trans Xd;replace qkF:=eq_true qkF;replace qkH:=eq_true qkH
            go_wp2_with (first|((with_reducible refine QG (f:=65) rfl ?_);refine YF (some 46) rfl rfl Try.func65 (by kernel_rfl) rfl #[.int .i64 (rd l1 Jn),.int .i64 0,.int .i64 100000000] rfl (by (try simp only [List.map_toArray,List.map_cons,List.map_nil]);first|done|rfl|(simp only [List.length_drop,List.length_take];rfl)) ?_;(with_reducible refine (Qo.calls (rd l1 Jn) 0 100000000 true _ A28.out).mono ?_);rintro e w' ⟨rfl,⟨nd,rfl⟩⟩;refine ⟨_,rfl,?_⟩;have qt4:0≤(Jn:Int):=of_decide_eq_true (by first|(with_reducible assumption)|assumption);have qud:Jn<(l2.length:Int):=of_decide_eq_true (by first|(with_reducible assumption)|assumption);obtain ⟨qIN,qG0,qfQ⟩:=Kd.at_int HR2.out Jn qt4 qud;cases qG0;replace qfQ:=(HB.out.cell (World.block_lt_of_cell? w _ qfQ)).trans qfQ;replace qt4:=eq_true qt4;replace qud:=eq_true qud)|(go_at_call 65;(with_reducible refine (Qo.calls (rd l2 Jn) 0 100000 qgJ _ A31.out).mono ?_);rintro e w' ⟨rfl,⟨nd,rfl⟩⟩))
            go_roundg qaU
            case measure=>have:=HJ3.out;have:=HK2.out;have:=Xp.out;omega
            case rel=>exact ⟨(qgJ),(wrap64 (Jn+1)),(by first|rfl|(simp;done)|(simp [*];done)),(by first|rfl|(simp;done)|(simp [*];done)),H',⟨by have:=HJ3.out;have:=HK2.out;have:=Xp.out;omega⟩,⟨by (with_reducible repeat (first|refine Q4 ?_ _|refine Q7 ?_|refine Q2 ?_ _));exact YZ.out⟩,⟨by (with_reducible repeat (first|refine Q4 ?_ _|refine Q7 ?_|refine Q2 ?_ _));exact Yd.out⟩,⟨by repeat (first|(with_reducible first|exact HB.out|apply Q3|apply Q1|apply Q6|refine Q5 ?_ Ju.out|refine Q5 ?_ JF.out)|exact HB.out)⟩⟩
           rw [if_neg c30] at H
           exact absurd H (by simp)
          replace c29:=Bool.eq_false_iff.mpr c29;subst c29
          have H1:(Qx.l0 qaU l1 l2 false (wrap64 (Jn+1)) Qa Qf Qb Y0 QU)=some (r1,r2):=by rw [if_neg (show ¬ (false=true) by decide)] at H;exact H
          clear H;have H:=H1;clear H1;have H':=Q0.mk H;clear H;have qkF:0≤(Jn:Int):=of_decide_eq_true (by first|(with_reducible assumption)|assumption);have qkH:Jn<(l1.length:Int):=of_decide_eq_true (by first|(with_reducible assumption)|assumption);obtain ⟨qyi,qwi,Xd⟩:=Kd.at_int HR1.out Jn qkF qkH;cases qwi;replace Xd:=(HB.out.cell (World.block_lt_of_cell? w _ Xd)).trans Xd;replace qkF:=eq_true qkF;replace qkH:=eq_true qkH
          go_wp2_with (first|((with_reducible refine QG (f:=65) rfl ?_);refine YF (some 46) rfl rfl Try.func65 (by kernel_rfl) rfl #[.int .i64 (rd l1 Jn),.int .i64 0,.int .i64 100000000] rfl (by (try simp only [List.map_toArray,List.map_cons,List.map_nil]);first|done|rfl|(simp only [List.length_drop,List.length_take];rfl)) ?_;(with_reducible refine (Qo.calls (rd l1 Jn) 0 100000000 false _ A28.out).mono ?_);rintro e w' ⟨rfl,⟨nd,rfl⟩⟩;refine ⟨_,rfl,?_⟩))
          go_roundg qaU
          case measure=>have:=HJ3.out;have:=HK2.out;have:=Xp.out;omega
          case rel=>exact ⟨(false),(wrap64 (Jn+1)),(by first|rfl|(simp;done)|(simp [*];done)),(by first|rfl|(simp;done)|(simp [*];done)),H',⟨by have:=HJ3.out;have:=HK2.out;have:=Xp.out;omega⟩,⟨by (with_reducible repeat (first|refine Q4 ?_ _|refine Q7 ?_|refine Q2 ?_ _));exact YZ.out⟩,⟨by (with_reducible repeat (first|refine Q4 ?_ _|refine Q7 ?_|refine Q2 ?_ _));exact Yd.out⟩,⟨by repeat (first|(with_reducible first|exact HB.out|apply Q3|apply Q1|apply Q6|refine Q5 ?_ Ju.out|refine Q5 ?_ JF.out)|exact HB.out)⟩⟩
         rw [if_neg c27] at H
         exact absurd H (by simp)
        rw [if_neg c26] at H
        exact absurd H (by simp)
       replace c25:=Bool.eq_false_iff.mpr c25;subst c25
       have H1:(if qmI=true then ((Z8.f Qa Qf Qb Y0 QU).bind fun OJ=>(Qx.l1 qaU l1 l2 ([]:List Int) (l1.length:Int) 0 Qa Qf Qb Y0 QU OJ.1 OJ.2.1 OJ.2.2.1 OJ.2.2.2.1 OJ.2.2.2.2.1 OJ.2.2.2.2.2)) else (some (([]:List Int),92)))=some (r1,r2):=by rw [if_neg (show ¬ (false=true) by decide)] at H;exact H
       clear H;have H:=H1;clear H1
       by_cases c32:qmI=true
       ·
        subst c32
        have H1:((Z8.f Qa Qf Qb Y0 QU).bind fun OJ=>(Qx.l1 qaU l1 l2 ([]:List Int) (l1.length:Int) 0 Qa Qf Qb Y0 QU OJ.1 OJ.2.1 OJ.2.2.1 OJ.2.2.2.1 OJ.2.2.2.2.1 OJ.2.2.2.2.2))=some (r1,r2):=by rw [if_pos rfl] at H;exact H
        clear H;have H:=H1;clear H1;replace H:=Option.bind_eq_some_iff.mp H;obtain ⟨⟨t162,qmz,t164,qrB,qup,t167⟩,qxw,H⟩:=H;replace H:(Qx.l1 qaU l1 l2 ([]:List Int) (l1.length:Int) 0 Qa Qf Qb Y0 QU t162 qmz t164 qrB qup t167)=some (r1,r2):=H;have A33:=Q0.mk qxw;clear qxw;have H':=Q0.mk H;clear H;have qJu:=XB.out;have qJ2:=Jh.out;have qsU:wc.cell? ⟨Z4,0,none⟩=some (.slice QD Qa.length Qu):=(Q9 Yd.out 0).trans rfl;have qsV:wc.cell? ⟨Z4,1,none⟩=some (.slice QB Qf.length Qv):=(Q9 Yd.out 1).trans rfl;have qsW:wc.cell? ⟨Z4,2,none⟩=some (.slice QK Qb.length Qw):=(Q9 Yd.out 2).trans rfl;have qsX:wc.cell? ⟨Z4,3,none⟩=some (.int .i64 Y0):=(Q9 Yd.out 3).trans rfl;have qsY:wc.cell? ⟨Z4,4,none⟩=some (.int .i64 QU):=(Q9 Yd.out 4).trans rfl;have qts:=Q8 Yd.out 0;have qtt:=Q8 Yd.out 1;have qtu:=Q8 Yd.out 2;have qtv:=Q8 Yd.out 3;have qtw:=Q8 Yd.out 4
        go_wp2_with (first|((with_reducible refine QG (f:=78) rfl ?_);refine YF (some 57) rfl rfl Try.func78 (by kernel_rfl) rfl #[.agg #[.slice QD Qa.length Qu,.slice QB Qf.length Qv,.slice QK Qb.length Qw,.int .i64 Y0,.int .i64 QU]] rfl (by (try simp only [List.map_toArray,List.map_cons,List.map_nil]);first|done|rfl|(simp only [List.length_drop,List.length_take];rfl)) ?_;(with_reducible refine (Z8.calls _ _ Qa _ _ Qf _ _ Qb Y0 QU t162 qmz t164 qrB qup t167 _ ?side1 ?side2 ?side3 ?side4 ?side5 ?side6 A33.out).mono ?_);(case side1=>repeat (first|exact (Kd.C_below YV.out HB.out)|(with_reducible refine Kd.C_alloc ?_ _)|(with_reducible refine Kd.C_drewN ?_ _)|(with_reducible refine Kd.C_drew ?_)));(case side2=>exact ZA.out);(case side3=>repeat (first|exact (Kd.C_below Zj.out HB.out)|(with_reducible refine Kd.C_alloc ?_ _)|(with_reducible refine Kd.C_drewN ?_ _)|(with_reducible refine Kd.C_drew ?_)));(case side4=>exact ZB.out);(case side5=>repeat (first|exact (Kd.C_below Z5.out HB.out)|(with_reducible refine Kd.C_alloc ?_ _)|(with_reducible refine Kd.C_drewN ?_ _)|(with_reducible refine Kd.C_drew ?_)));(case side6=>exact ZC.out);rintro e w36 ⟨rfl,hb⟩;refine ⟨_,rfl,?_⟩;have n0_:=Q0.mk (Qg (g:=Jx) (by (with_reducible repeat (first|refine Q4 ?_ _|refine Q7 ?_|refine Q2 ?_ _));exact YZ.out) hb);have n1_:=Q0.mk (Qg (g:=Z4) (by (with_reducible repeat (first|refine Q4 ?_ _|refine Q7 ?_|refine Q2 ?_ _));exact Yd.out) hb);have n2_:=Q0.mk (Qk (by repeat (first|(with_reducible first|exact HB.out|apply Q3|apply Q1|apply Q6|refine Q5 ?_ Ju.out|refine Q5 ?_ JF.out)|exact HB.out)) hb);clear YZ Yd HB;have YZ:=n0_;have Yd:=n1_;have HB:=n2_;clear n0_ n1_ n2_;(try clear hb);(try clear hb2);(try clear hk);(try clear hi))|((with_reducible refine QZ (N:=12) rfl ?_);(try (refine JI (by rfl) ?_;dsimp only));refine Yr ?hg (N:=12) ?hd (cs:=#[.int .i64 0,.int .i64 0,.int .i64 0,.int .i64 0,.int .i64 0,.int .i64 0]) (t:=115) ?hr ?_;(case hd=>rfl);(case hg=>rfl);(case hr=>first|(go_simp;done)|(go_simp;rfl));intro YD hg w37 hbox hb;have n0_:=Q0.mk (Qg (g:=Jx) (by (with_reducible repeat (first|refine Q4 ?_ _|refine Q7 ?_|refine Q2 ?_ _));exact YZ.out) hb);have n1_:=Q0.mk (Qg (g:=Z4) (by (with_reducible repeat (first|refine Q4 ?_ _|refine Q7 ?_|refine Q2 ?_ _));exact Yd.out) hb);have n2_:=Q0.mk (Qk (by repeat (first|(with_reducible first|exact HB.out|apply Q3|apply Q1|apply Q6|refine Q5 ?_ Ju.out|refine Q5 ?_ JF.out)|exact HB.out)) hb);have n3_:=Q0.mk (hbox);have n4_:=Q0.mk ((by rw [hg];exact (Qh (by repeat (first|(with_reducible first|exact HB.out|apply Q3|apply Q1|apply Q6|refine Q5 ?_ Ju.out|refine Q5 ?_ JF.out)|exact HB.out))):w.heap.size≤YD));have n5_:=n4_;have n6_:=Q0.mk ((by rw [hg];exact Nat.ne_of_lt (QT (g:=Jx) (by (with_reducible repeat (first|refine Q4 ?_ _|refine Q7 ?_|refine Q2 ?_ _));exact YZ.out)):Jx≠YD));have n7_:=Q0.mk (n6_.out.symm);have n8_:=Q0.mk ((by rw [hg];exact Nat.ne_of_lt (QT (g:=Z4) (by (with_reducible repeat (first|refine Q4 ?_ _|refine Q7 ?_|refine Q2 ?_ _));exact Yd.out)):Z4≠YD));have n9_:=Q0.mk (n8_.out.symm);clear YZ Yd HB;have YZ:=n0_;have Yd:=n1_;have HB:=n2_;have YH:=n3_;have qIy:=n4_;have UH:=n5_;have Jo:=n6_;have Ua:=n7_;have Jp:=n8_;have Ub:=n9_;clear n0_ n1_ n2_ n3_ n4_ n5_ n6_ n7_ n8_ n9_ hb hbox hg;have qJw:=Ua.out;have qJ4:=Jo.out;have qvk:=Ub.out;have qvn:=Jp.out;have qeZ:w37.cell? ⟨YD,0,none⟩=some (.int .i64 0):=(Q9 YH.out 0).trans rfl;have qe0:w37.cell? ⟨YD,1,none⟩=some (.int .i64 0):=(Q9 YH.out 1).trans rfl;have qe1:w37.cell? ⟨YD,2,none⟩=some (.int .i64 0):=(Q9 YH.out 2).trans rfl;have qsZ:w37.cell? ⟨YD,3,none⟩=some (.int .i64 0):=(Q9 YH.out 3).trans rfl;have qs0:w37.cell? ⟨YD,4,none⟩=some (.int .i64 0):=(Q9 YH.out 4).trans rfl;have qs1:w37.cell? ⟨YD,5,none⟩=some (.int .i64 0):=(Q9 YH.out 5).trans rfl;have qfj:=Q8 YH.out 0;have qfk:=Q8 YH.out 1;have qfl:=Q8 YH.out 2;have qtx:=Q8 YH.out 3;have qty:=Q8 YH.out 4;have qtz:=Q8 YH.out 5))
        go_loopg [13,60] qaU (fun kq v13 v60 w' => ∃ (KM:List Int) (JL:Int) (ZP:Int) (ZE:Int) (Zz:Int) (Zu:Int) (Zo:Int) (Zh:Int),v60 = .int .i64 JL∧Q0 (Qx.l1 kq l1 l2 KM (l1.length:Int) JL Qa Qf Qb Y0 QU ZP ZE Zz Zu Zo Zh=some (r1,r2))∧Q0 (kq≤qaU)∧Q0 (Kd.R (Kd.int .i64) 3 w' w.heap.size (fun k_=>(w.heap.size≤k_)) v13 KM)∧Q0 (w'.heap[Jx]? = some (.cells #[(.slice QD Qa.length Qu),(.slice QB Qf.length Qv),(.slice QK Qb.length Qw),.int .i64 Y0,.int .i64 QU] 39 (0,0)))∧Q0 (w'.heap[Z4]? = some (.cells #[(.slice QD Qa.length Qu),(.slice QB Qf.length Qv),(.slice QK Qb.length Qw),.int .i64 Y0,.int .i64 QU] 111 (0,0)))∧Q0 (w'.heap[YD]? = some (.cells #[.int .i64 ZP,.int .i64 ZE,.int .i64 Zz,.int .i64 Zu,.int .i64 Zo,.int .i64 Zh] 115 (0,0)))∧Q0 (Below w.heap.size w w'))
        case atStart=>exact ⟨(([]:List Int)),(0),(t162),(qmz),(t164),(qrB),(qup),(t167),(by first|rfl|(simp;done)|(simp [*];done)),H',⟨Nat.le_refl _⟩,⟨by first|exact Kd.R_nil _ _ _ _ _|exact Kd.N_nil _ _ _ _ _|exact Kd.V_nil _ _ _ _ _|exact Kd.Q_nil _ _ _ _ _|exact Kd.S_nil _ _ _ _ _⟩,⟨by (with_reducible repeat (first|refine Q4 ?_ _|refine Q7 ?_|refine Q2 ?_ _));refine Qr ?_ Jo.out _;(with_reducible repeat (first|refine Q4 ?_ _|refine Q7 ?_|refine Q2 ?_ _));refine Qr ?_ Jo.out _;(with_reducible repeat (first|refine Q4 ?_ _|refine Q7 ?_|refine Q2 ?_ _));refine Qr ?_ Jo.out _;(with_reducible repeat (first|refine Q4 ?_ _|refine Q7 ?_|refine Q2 ?_ _));refine Qr ?_ Jo.out _;(with_reducible repeat (first|refine Q4 ?_ _|refine Q7 ?_|refine Q2 ?_ _));refine Qr ?_ Jo.out _;(with_reducible repeat (first|refine Q4 ?_ _|refine Q7 ?_|refine Q2 ?_ _));refine Qr ?_ Jo.out _;(with_reducible repeat (first|refine Q4 ?_ _|refine Q7 ?_|refine Q2 ?_ _));exact YZ.out⟩,⟨by (with_reducible repeat (first|refine Q4 ?_ _|refine Q7 ?_|refine Q2 ?_ _));refine Qr ?_ Jp.out _;(with_reducible repeat (first|refine Q4 ?_ _|refine Q7 ?_|refine Q2 ?_ _));refine Qr ?_ Jp.out _;(with_reducible repeat (first|refine Q4 ?_ _|refine Q7 ?_|refine Q2 ?_ _));refine Qr ?_ Jp.out _;(with_reducible repeat (first|refine Q4 ?_ _|refine Q7 ?_|refine Q2 ?_ _));refine Qr ?_ Jp.out _;(with_reducible repeat (first|refine Q4 ?_ _|refine Q7 ?_|refine Q2 ?_ _));refine Qr ?_ Jp.out _;(with_reducible repeat (first|refine Q4 ?_ _|refine Q7 ?_|refine Q2 ?_ _));refine Qr ?_ Jp.out _;(with_reducible repeat (first|refine Q4 ?_ _|refine Q7 ?_|refine Q2 ?_ _));exact Yd.out⟩,⟨by (with_reducible repeat (first|refine Q4 ?_ _|refine Q7 ?_|refine Q2 ?_ _));refine QI (cs:=#[.int .i64 t162,.int .i64 qmz,.int .i64 t164,.int .i64 qrB,.int .i64 qup,.int .i64 0]) ?_ 5 _ rfl;(with_reducible repeat (first|refine Q4 ?_ _|refine Q7 ?_|refine Q2 ?_ _));refine QI (cs:=#[.int .i64 t162,.int .i64 qmz,.int .i64 t164,.int .i64 qrB,.int .i64 0,.int .i64 0]) ?_ 4 _ rfl;(with_reducible repeat (first|refine Q4 ?_ _|refine Q7 ?_|refine Q2 ?_ _));refine QI (cs:=#[.int .i64 t162,.int .i64 qmz,.int .i64 t164,.int .i64 0,.int .i64 0,.int .i64 0]) ?_ 3 _ rfl;(with_reducible repeat (first|refine Q4 ?_ _|refine Q7 ?_|refine Q2 ?_ _));refine QI (cs:=#[.int .i64 t162,.int .i64 qmz,.int .i64 0,.int .i64 0,.int .i64 0,.int .i64 0]) ?_ 2 _ rfl;(with_reducible repeat (first|refine Q4 ?_ _|refine Q7 ?_|refine Q2 ?_ _));refine QI (cs:=#[.int .i64 t162,.int .i64 0,.int .i64 0,.int .i64 0,.int .i64 0,.int .i64 0]) ?_ 1 _ rfl;(with_reducible repeat (first|refine Q4 ?_ _|refine Q7 ?_|refine Q2 ?_ _));refine QI (cs:=#[.int .i64 0,.int .i64 0,.int .i64 0,.int .i64 0,.int .i64 0,.int .i64 0]) ?_ 0 _ rfl;(with_reducible repeat (first|refine Q4 ?_ _|refine Q7 ?_|refine Q2 ?_ _));exact YH.out⟩,⟨by repeat (first|(with_reducible first|exact HB.out|apply Q3|apply Q1|apply Q6|refine Q5 ?_ Ju.out|refine Q5 ?_ JF.out|refine Q5 ?_ UH.out)|exact HB.out)⟩⟩
        case round =>
         clear H';(try clear c1);(try clear p1);(try clear q1);(try clear hx1);(try clear c2);(try clear p2);(try clear c3);(try clear c6);(try clear p6);(try clear c7);(try clear c8);(try clear c11);(try clear c13);(try clear c14);(try clear p15);(try clear q15);(try clear qLs);(try clear p16);(try clear q16);(try clear hx16);(try clear c17);(try clear c20);(try clear c24);(try clear c25);(try clear c26);(try clear c26b0);(try clear c27);(try clear c27b0);(try clear c29);(try clear c30);(try clear c30b0);(try clear c32);(try clear c34);(try clear c38);(try clear c39);(try clear JO);(try clear JP);(try clear JX);(try clear X6);(try clear X7);(try clear GZ);(try clear K0);(try clear K1);(try clear qeV);(try clear qeW);(try clear W5);(try clear W6);(try clear W7);(try clear qeX);(try clear qeY);(try clear qsU);(try clear qsV);(try clear qsW);(try clear qsX);(try clear qsY);(try clear qeZ);(try clear qe0);(try clear qe1);(try clear qsZ);(try clear qs0);(try clear qs1);(try clear qcn);(try clear qco);(try clear qek);(try clear qif);(try clear qig);(try clear Oz);(try clear OA);(try clear OB);(try clear qil);(try clear qim);(try clear JQ);(try clear JU);(try clear JY);(try clear Xb);(try clear Xc);(try clear Kb);(try clear Ke);(try clear Kf);(try clear qff);(try clear qfg);(try clear Wc);(try clear Wd);(try clear Wg);(try clear qfh);(try clear qfi);(try clear qts);(try clear qtt);(try clear qtu);(try clear qtv);(try clear qtw);(try clear qfj);(try clear qfk);(try clear qfl);(try clear qtx);(try clear qty);(try clear qtz);(try clear qcr);(try clear qcs);(try clear qel);(try clear qiF);(try clear qiG);(try clear OC);(try clear OD);(try clear OE);(try clear qiL);(try clear qiM);(try clear Xd);(try clear qfQ);(try clear qkF);(try clear qt4);(try clear p2);(try clear qkH);(try clear qud);obtain ⟨KM,JL,ZP,ZE,Zz,Zu,Zo,Zh,rfl,HA,HK4,HO_13,YZ,Yd,YH,HB⟩:=hrel
         cases gk with
         | zero=>exact absurd HA.out (by simp [Qx.l1])
         | succ k4 =>
          have H:=HA.out;clear HA;simp only [Qx.l1] at H
          by_cases c41:JL<(l1.length:Int)
          ·
           rw [if_pos c41] at H;have c41b0:decide (JL<(l1.length:Int))=true:=decide_eq_true c41;clear c41
           by_cases c42:0≤JL
           ·
            rw [if_pos c42] at H;have c42b0:decide (0≤JL)=true:=decide_eq_true c42;clear c42
            by_cases c43:JL<(l1.length:Int)
            ·
             rw [if_pos c43] at H;have c43b0:decide (JL<(l1.length:Int))=true:=decide_eq_true c43;clear c43
             by_cases c44:JL<(l2.length:Int)
             ·
              rw [if_pos c44] at H;have c44b0:decide (JL<(l2.length:Int))=true:=decide_eq_true c44;clear c44;replace H:=Option.bind_eq_some_iff.mp H;obtain ⟨⟨t171,ON,t173,UQ,t175,WU,XK⟩,qpr,H⟩:=H;replace H:(if KM.length<17592186044416 then (Qx.l1 k4 l1 l2 (KM++[t171]) (l1.length:Int) (wrap64 (JL+1)) Qa Qf Qb Y0 QU ON t173 UQ t175 WU XK) else (none))=some (r1,r2):=H;have A45:=Q0.mk qpr;clear qpr
              by_cases c46:KM.length<17592186044416
              ·
               rw [if_pos c46] at H;have qx7:=Q0.mk c46;clear c46;obtain ⟨qA7,qka⟩:∃ y_:List Int,y_=(KM++[t171]):=⟨_,rfl⟩
               replace H:(Qx.l1 k4 l1 l2 qA7 (l1.length:Int) (wrap64 (JL+1)) Qa Qf Qb Y0 QU ON t173 UQ t175 WU XK)=some (r1,r2):=by first|(rw [qka];with_reducible exact H)|(have H2_:=(Option.bind_some _ _).symm.trans H;rw [qka];with_reducible exact H2_)|(have H2_:=(Option.bind_some _ _).symm.trans H;with_reducible exact H2_)|with_reducible exact H|(rw [qka];exact H)|exact H
               have qx8:=Q0.mk qka;clear qka;have H':=Q0.mk H;clear H
               try go_wp2
               have n0_:=Q0.mk (Kd.R_drew HO_13.out);have n1_:=Q0.mk (Q7 YZ.out);have n2_:=Q0.mk (Q7 Yd.out);have n3_:=Q0.mk (Q7 YH.out);have n4_:=Q0.mk (Q6 HB.out);clear HO_13 YZ Yd YH HB;have HO_13:=n0_;have YZ:=n1_;have Yd:=n2_;have YH:=n3_;have HB:=n4_;clear n0_ n1_ n2_ n3_ n4_;have qwN:0≤(JL:Int):=of_decide_eq_true (by first|(with_reducible assumption)|assumption);have qw1:JL<(l1.length:Int):=of_decide_eq_true (by first|(with_reducible assumption)|assumption);obtain ⟨qp7,e169,qdO⟩:=Kd.at_int HR1.out JL qwN qw1;have ZK:=qdO;cases e169;replace qdO:=(HB.out.cell (World.block_lt_of_cell? w _ qdO)).trans qdO;replace qwN:=eq_true qwN;replace qw1:=eq_true qw1;have qwO:0≤(JL:Int):=of_decide_eq_true (by first|(with_reducible assumption)|assumption);have qw2:JL<(l2.length:Int):=of_decide_eq_true (by first|(with_reducible assumption)|assumption);obtain ⟨qp8,e170,qdP⟩:=Kd.at_int HR2.out JL qwO qw2;have ZL:=qdP;cases e170;replace qdP:=(HB.out.cell (World.block_lt_of_cell? w _ qdP)).trans qdP;replace qwO:=eq_true qwO;replace qw2:=eq_true qw2;refine qaJ (n:=18) (S:=fun w'=>w'.cell? ⟨Z4,0,none⟩=some (.slice QD Qa.length Qu)∧w'.cell? ⟨Z4,1,none⟩=some (.slice QB Qf.length Qv)∧w'.cell? ⟨Z4,2,none⟩=some (.slice QK Qb.length Qw)∧w'.cell? ⟨Z4,3,none⟩=some (.int .i64 Y0)∧w'.cell? ⟨Z4,4,none⟩=some (.int .i64 QU)∧w'.cell? ⟨YD,0,none⟩=some (.int .i64 ZP)∧w'.cell? ⟨YD,1,none⟩=some (.int .i64 ZE)∧w'.cell? ⟨YD,2,none⟩=some (.int .i64 Zz)∧w'.cell? ⟨YD,3,none⟩=some (.int .i64 Zu)∧w'.cell? ⟨YD,4,none⟩=some (.int .i64 Zo)∧w'.cell? ⟨YD,5,none⟩=some (.int .i64 Zh)∧w'.cell? (qp7.add (JL).toNat)=some (.int .i64 (rd l1 JL))∧w'.cell? (qp8.add (JL).toNat)=some (.int .i64 (rd l2 JL))) (ds:=[]) #[false,false,false,false,false,false,false,false,false,false,false,false,false,false,false,false,false,false] (by kernel_rfl) rfl rfl ⟨(Q9 Yd.out 0).trans rfl,(Q9 Yd.out 1).trans rfl,(Q9 Yd.out 2).trans rfl,(Q9 Yd.out 3).trans rfl,(Q9 Yd.out 4).trans rfl,(Q9 YH.out 0).trans rfl,(Q9 YH.out 1).trans rfl,(Q9 YH.out 2).trans rfl,(Q9 YH.out 3).trans rfl,(Q9 YH.out 4).trans rfl,(Q9 YH.out 5).trans rfl,((HB.out.cell (World.block_lt_of_cell? w _ ZK)).trans ZK),((HB.out.cell (World.block_lt_of_cell? w _ ZL)).trans ZL)⟩ (fun hHeld => ?_);refine OM Qx.tab15 Qx.bits15 (fun HT_ HW_ => ?_)
               generalize wr.drew=w47 at HO_13 YZ Yd YH HB qdO qdP hHeld ⊢
               refine Yu (i:=0) (N:=some 64) (v:=?_) (a':=?_) #[true,false,false,false,false,false,false,false,false,false,false,false,false,false,false,false,false,false] rfl rfl (Y8 HT_.out (by kernel_rfl)) (fun _ _ _ h=>h) (Or.inl ⟨by rfl,?_⟩) ?_ ?_
               rotate_left
               ·
                intro w'
                go_simp
                with_reducible rfl
               rotate_left
               ·
                simp only [Act.put,List.setIfInBounds_toArray,List.set_cons_zero,List.set_cons_succ,QL,QO]
                rfl
               refine Yu (i:=3) (N:=some 67) (v:=?_) (a':=?_) #[true,false,false,true,false,false,false,false,false,false,false,false,false,false,false,false,false,false] rfl rfl (Y8 HT_.out (by kernel_rfl)) (fun _ _ _ h=>h) (Or.inl ⟨by rfl,?_⟩) ?_ ?_
               rotate_left
               ·
                intro w'
                go_simp
                with_reducible rfl
               rotate_left
               ·
                simp only [Act.put,List.setIfInBounds_toArray,List.set_cons_zero,List.set_cons_succ,QL,QO]
                rfl
               refine Yu (i:=4) (N:=some 68) (v:=?_) (a':=?_) #[true,false,false,true,true,false,false,false,false,false,false,false,false,false,false,false,false,false] rfl rfl (Y8 HT_.out (by kernel_rfl)) (fun _ _ _ h=>h) (Or.inl ⟨by rfl,?_⟩) ?_ ?_
               rotate_left
               ·
                intro w'
                go_simp
                with_reducible rfl
               rotate_left
               ·
                simp only [Act.put,List.setIfInBounds_toArray,List.set_cons_zero,List.set_cons_succ,QL,QO]
                rfl
               refine Yu (i:=5) (N:=some 69) (v:=?_) (a':=?_) #[true,false,false,true,true,true,false,false,false,false,false,false,false,false,false,false,false,false] rfl rfl (Y8 HT_.out (by kernel_rfl)) (fun _ _ _ h=>h) (Or.inl ⟨by rfl,?_⟩) ?_ ?_
               rotate_left
               ·
                intro w'
                go_simp
                with_reducible rfl
               rotate_left
               ·
                simp only [Act.put,List.setIfInBounds_toArray,List.set_cons_zero,List.set_cons_succ,QL,QO]
                rfl
               refine Yu (i:=7) (N:=some 71) (v:=?_) (a':=?_) #[true,false,false,true,true,true,false,true,false,false,false,false,false,false,false,false,false,false] rfl rfl (Y8 HT_.out (by kernel_rfl)) (fun _ _ _ h=>h) (Or.inl ⟨by rfl,?_⟩) ?_ ?_
               rotate_left
               ·
                intro w'
                go_simp
                with_reducible rfl
               rotate_left
               ·
                simp only [Act.put,List.setIfInBounds_toArray,List.set_cons_zero,List.set_cons_succ,QL,QO]
                rfl
               refine Yu (i:=8) (N:=some 72) (v:=?_) (a':=?_) #[true,false,false,true,true,true,false,true,true,false,false,false,false,false,false,false,false,false] rfl rfl (Y8 HT_.out (by kernel_rfl)) (fun _ _ _ h=>h) (Or.inl ⟨by rfl,?_⟩) ?_ ?_
               rotate_left
               ·
                intro w'
                go_simp
                with_reducible rfl
               rotate_left
               ·
                simp only [Act.put,List.setIfInBounds_toArray,List.set_cons_zero,List.set_cons_succ,QL,QO]
                rfl
               refine Yu (i:=9) (N:=some 73) (v:=?_) (a':=?_) #[true,false,false,true,true,true,false,true,true,true,false,false,false,false,false,false,false,false] rfl rfl (Y8 HT_.out (by kernel_rfl)) (fun _ _ _ h=>h) (Or.inl ⟨by rfl,?_⟩) ?_ ?_
               rotate_left
               ·
                intro w'
                go_simp
                with_reducible rfl
               rotate_left
               ·
                simp only [Act.put,List.setIfInBounds_toArray,List.set_cons_zero,List.set_cons_succ,QL,QO]
                rfl
               refine Gp (i:=1) (N:=some 65) (v:=?_) (a':=?_) #[true,true,false,true,true,true,false,true,true,true,false,false,false,false,false,false,false,false] rfl rfl (Zg HT_.out HW_.out (by kernel_rfl)) (fun _ _ _ h=>h) (Or.inl ⟨by rfl,?_⟩) hHeld ?_ ?_
               rotate_left
               ·
                rintro w' ⟨s0,s1,s2,s3,s4,s5,s6,s7,s8,s9,s10,s11,s12⟩
                go_simp
                with_reducible rfl
               rotate_left
               ·
                simp only [Act.put,List.setIfInBounds_toArray,List.set_cons_zero,List.set_cons_succ,QL,QO]
                rfl
               refine Gp (i:=2) (N:=some 66) (v:=?_) (a':=?_) #[true,true,true,true,true,true,false,true,true,true,false,false,false,false,false,false,false,false] rfl rfl (Zg HT_.out HW_.out (by kernel_rfl)) (fun _ _ _ h=>h) (Or.inl ⟨by rfl,?_⟩) hHeld ?_ ?_
               rotate_left
               ·
                rintro w' ⟨s0,s1,s2,s3,s4,s5,s6,s7,s8,s9,s10,s11,s12⟩
                go_simp
                with_reducible rfl
               rotate_left
               ·
                simp only [Act.put,List.setIfInBounds_toArray,List.set_cons_zero,List.set_cons_succ,QL,QO]
                rfl
               refine Gp (i:=6) (N:=some 70) (v:=?_) (a':=?_) #[true,true,true,true,true,true,true,true,true,true,false,false,false,false,false,false,false,false] rfl rfl (Zg HT_.out HW_.out (by kernel_rfl)) (fun _ _ _ h=>h) (Or.inl ⟨by rfl,?_⟩) hHeld ?_ ?_
               rotate_left
               ·
                rintro w' ⟨s0,s1,s2,s3,s4,s5,s6,s7,s8,s9,s10,s11,s12⟩
                go_simp
                with_reducible rfl
               rotate_left
               ·
                simp only [Act.put,List.setIfInBounds_toArray,List.set_cons_zero,List.set_cons_succ,QL,QO]
                rfl
               refine Gp (i:=10) (N:=some 74) (v:=?_) (a':=?_) #[true,true,true,true,true,true,true,true,true,true,true,false,false,false,false,false,false,false] rfl rfl (Zg HT_.out HW_.out (by kernel_rfl)) (fun _ _ _ h=>h) (Or.inl ⟨by rfl,?_⟩) hHeld ?_ ?_
               rotate_left
               ·
                rintro w' ⟨s0,s1,s2,s3,s4,s5,s6,s7,s8,s9,s10,s11,s12⟩
                go_simp
                with_reducible rfl
               rotate_left
               ·
                simp only [Act.put,List.setIfInBounds_toArray,List.set_cons_zero,List.set_cons_succ,QL,QO]
                rfl
               refine qvu (σ:=Nat) 2 #[true,true,true,true,true,true,true,true,true,true,true,true,true,true,true,true,false,false] (fun s_=>[(75,.tuple #[.int .i64 t171,.agg #[.int .i64 ON,.int .i64 t173,.int .i64 UQ,.int .i64 t175,.int .i64 WU,.int .i64 XK]]),(16,.pointer (some ⟨s_,0,none⟩)),(63,.tuple #[.int .i64 t171,.agg #[.int .i64 ON,.int .i64 t173,.int .i64 UQ,.int .i64 t175,.int .i64 WU,.int .i64 XK]]),(76,.int .i64 t171),(77,.agg #[.int .i64 ON,.int .i64 t173,.int .i64 UQ,.int .i64 t175,.int .i64 WU,.int .i64 XK])]) (fun s_ w'=>(w'.cell? ⟨Z4,0,none⟩=some (.slice QD Qa.length Qu)∧w'.cell? ⟨Z4,1,none⟩=some (.slice QB Qf.length Qv)∧w'.cell? ⟨Z4,2,none⟩=some (.slice QK Qb.length Qw)∧w'.cell? ⟨Z4,3,none⟩=some (.int .i64 Y0)∧w'.cell? ⟨Z4,4,none⟩=some (.int .i64 QU)∧w'.cell? ⟨YD,0,none⟩=some (.int .i64 ZP)∧w'.cell? ⟨YD,1,none⟩=some (.int .i64 ZE)∧w'.cell? ⟨YD,2,none⟩=some (.int .i64 Zz)∧w'.cell? ⟨YD,3,none⟩=some (.int .i64 Zu)∧w'.cell? ⟨YD,4,none⟩=some (.int .i64 Zo)∧w'.cell? ⟨YD,5,none⟩=some (.int .i64 Zh)∧w'.cell? (qp7.add (JL).toNat)=some (.int .i64 (rd l1 JL))∧w'.cell? (qp8.add (JL).toNat)=some (.int .i64 (rd l2 JL)))∧(Kd.R (Kd.int .i64) 3 w' w.heap.size (fun k_=>(w.heap.size≤k_)) u13 KM)∧(w'.heap[Jx]? = some (.cells #[.slice QD Qa.length Qu,.slice QB Qf.length Qv,.slice QK Qb.length Qw,.int .i64 Y0,.int .i64 QU] 39 (0,0)))∧(w'.heap[Z4]? = some (.cells #[.slice QD Qa.length Qu,.slice QB Qf.length Qv,.slice QK Qb.length Qw,.int .i64 Y0,.int .i64 QU] 111 (0,0)))∧(w'.heap[YD]? = some (.cells #[.int .i64 ZP,.int .i64 ZE,.int .i64 Zz,.int .i64 Zu,.int .i64 Zo,.int .i64 Zh] 115 (0,0)))∧(w'.heap[s_]? = some (.cells #[.int .i64 0,.int .i64 0,.int .i64 0,.int .i64 0,.int .i64 0,.int .i64 0] 115 (0,0)))∧(w.heap.size≤s_)∧(w.heap.size≤s_)∧(Jx≠s_)∧(s_≠Jx)∧(Z4≠s_)∧(s_≠Z4)∧(YD≠s_)∧(s_≠YD)∧(Below w.heap.size w w')) ?_ ?_
               rotate_left
               ·
                intro hCont;refine two_ (i:=11) (j:=15) (Ni:=some 75) (Nj:=some 16) #[true,true,true,true,true,true,true,true,true,true,true,true,false,false,false,false,false,false] #[true,true,true,true,true,true,true,true,true,true,true,false,false,false,false,true,false,false] rfl rfl rfl rfl (qrD HT_.out (by kernel_rfl)) (by decide) (by decide) (fun K hK => ?_) (fun K hK => ?_)
                ·
                 skip
                 refine qhW Try.func77 (by kernel_rfl) rfl #[.agg #[.slice QD Qa.length Qu,.slice QB Qf.length Qv,.slice QK Qb.length Qw,.int .i64 Y0,.int .i64 QU],.agg #[.int .i64 ZP,.int .i64 ZE,.int .i64 Zz,.int .i64 Zu,.int .i64 Zo,.int .i64 Zh],.int .i64 (rd l1 JL),.int .i64 (rd l2 JL)] 64 (by rfl) rfl rfl rfl (by (try simp only [List.map_toArray,List.map_cons,List.map_nil]);first|done|rfl|(simp only [List.length_drop,List.length_take];rfl)) ?_
                 with_reducible refine (YY.calls _ _ Qa _ _ Qf _ _ Qb Y0 QU ZP ZE Zz Zu Zo Zh (rd l1 JL) (rd l2 JL) t171 ON t173 UQ t175 WU XK _ ?side1 ?side2 ?side3 ?side4 ?side5 ?side6 A45.out).mono ?_
                 (case side1=>repeat (first|exact (Kd.C_below YV.out HB.out)|(with_reducible refine Kd.C_alloc ?_ _)|(with_reducible refine Kd.C_drewN ?_ _)|(with_reducible refine Kd.C_drew ?_)))
                 (case side2=>exact ZA.out)
                 (case side3=>repeat (first|exact (Kd.C_below Zj.out HB.out)|(with_reducible refine Kd.C_alloc ?_ _)|(with_reducible refine Kd.C_drewN ?_ _)|(with_reducible refine Kd.C_drew ?_)))
                 (case side4=>exact ZB.out)
                 (case side5=>repeat (first|exact (Kd.C_below Z5.out HB.out)|(with_reducible refine Kd.C_alloc ?_ _)|(with_reducible refine Kd.C_drewN ?_ _)|(with_reducible refine Kd.C_drew ?_)))
                 (case side6=>exact ZC.out)
                 rintro e w48 ⟨rfl,hb⟩;refine ⟨_,rfl,?_⟩;have n0_:=Q0.mk (Kd.R_below (by (with_reducible repeat (first|apply Kd.R_alloc|apply Kd.R_drewN|apply Kd.R_drew));exact HO_13.out) hb);have n1_:=Q0.mk (Qg (g:=Jx) (by (with_reducible repeat (first|refine Q4 ?_ _|refine Q7 ?_|refine Q2 ?_ _));exact YZ.out) hb);have n2_:=Q0.mk (Qg (g:=Z4) (by (with_reducible repeat (first|refine Q4 ?_ _|refine Q7 ?_|refine Q2 ?_ _));exact Yd.out) hb);have n3_:=Q0.mk (Qg (g:=YD) (by (with_reducible repeat (first|refine Q4 ?_ _|refine Q7 ?_|refine Q2 ?_ _));exact YH.out) hb);have n4_:=Q0.mk (Qk (by repeat (first|(with_reducible first|exact HB.out|apply Q3|apply Q1|apply Q6|refine Q5 ?_ Ju.out|refine Q5 ?_ JF.out|refine Q5 ?_ UH.out)|exact HB.out)) hb);clear HO_13 YZ Yd YH HB;have HO_13:=n0_;have YZ:=n1_;have Yd:=n2_;have YH:=n3_;have HB:=n4_;clear n0_ n1_ n2_ n3_ n4_
                 (try clear hb)
                 (try clear hb2)
                 (try clear hk)
                 (try clear hi)
                 refine hK.out _ _ ⟨(Q9 Yd.out 0).trans rfl,(Q9 Yd.out 1).trans rfl,(Q9 Yd.out 2).trans rfl,(Q9 Yd.out 3).trans rfl,(Q9 Yd.out 4).trans rfl,(Q9 YH.out 0).trans rfl,(Q9 YH.out 1).trans rfl,(Q9 YH.out 2).trans rfl,(Q9 YH.out 3).trans rfl,(Q9 YH.out 4).trans rfl,(Q9 YH.out 5).trans rfl,((HB.out.cell (World.block_lt_of_cell? w _ ZK)).trans ZK),((HB.out.cell (World.block_lt_of_cell? w _ ZL)).trans ZL)⟩ (fun hHeld => ?_);clear hK K;refine KL (a':=?_) ?_ ?_
                 rotate_left
                 ·
                  show Act.put _ (some 75) _=_
                  simp only [Act.put,List.setIfInBounds_toArray,List.set_cons_zero,List.set_cons_succ,QL,QO]
                  rfl
                 refine Yu (i:=12) (N:=some 63) (v:=?_) (a':=?_) #[true,true,true,true,true,true,true,true,true,true,true,true,true,false,false,false,false,false] rfl rfl (Y8 HT_.out (by kernel_rfl)) (fun _ _ _ h=>h) (Or.inl ⟨by rfl,?_⟩) ?_ ?_
                 rotate_left
                 ·
                  intro w'
                  go_simp
                  with_reducible rfl
                 rotate_left
                 ·
                  simp only [Act.put,List.setIfInBounds_toArray,List.set_cons_zero,List.set_cons_succ,QL,QO]
                  rfl
                 refine Yu (i:=13) (N:=some 76) (v:=?_) (a':=?_) #[true,true,true,true,true,true,true,true,true,true,true,true,true,true,false,false,false,false] rfl rfl (Y8 HT_.out (by kernel_rfl)) (fun _ _ _ h=>h) (Or.inl ⟨by rfl,?_⟩) ?_ ?_
                 rotate_left
                 ·
                  intro w'
                  go_simp
                  with_reducible rfl
                 rotate_left
                 ·
                  simp only [Act.put,List.setIfInBounds_toArray,List.set_cons_zero,List.set_cons_succ,QL,QO]
                  rfl
                 refine Yu (i:=14) (N:=some 77) (v:=?_) (a':=?_) #[true,true,true,true,true,true,true,true,true,true,true,true,true,true,true,false,false,false] rfl rfl (Y8 HT_.out (by kernel_rfl)) (fun _ _ _ h=>h) (Or.inl ⟨by rfl,?_⟩) ?_ ?_
                 rotate_left
                 ·
                  intro w'
                  go_simp
                  with_reducible rfl
                 rotate_left
                 ·
                  simp only [Act.put,List.setIfInBounds_toArray,List.set_cons_zero,List.set_cons_succ,QL,QO]
                  rfl
                 refine one_ (i:=15) (N:=some 16) #[true,true,true,true,true,true,true,true,true,true,true,true,true,true,true,true,false,false] rfl rfl (OG HT_.out (by kernel_rfl)) (by decide) (fun K hK => ?_);refine qcQ ?hg (N:=16) ?hd (cs:=#[.int .i64 0,.int .i64 0,.int .i64 0,.int .i64 0,.int .i64 0,.int .i64 0]) (t:=115) ?hr ?_;(case hd=>rfl);(case hg=>rfl);(case hr=>first|(go_simp;done)|(go_simp;rfl));intro QS hg w49 hbox hb;have n0_:=Q0.mk (Kd.R_below (by (with_reducible repeat (first|apply Kd.R_alloc|apply Kd.R_drewN|apply Kd.R_drew));exact HO_13.out) hb);have n1_:=Q0.mk (Qg (g:=Jx) (by (with_reducible repeat (first|refine Q4 ?_ _|refine Q7 ?_|refine Q2 ?_ _));exact YZ.out) hb);have n2_:=Q0.mk (Qg (g:=Z4) (by (with_reducible repeat (first|refine Q4 ?_ _|refine Q7 ?_|refine Q2 ?_ _));exact Yd.out) hb);have n3_:=Q0.mk (Qg (g:=YD) (by (with_reducible repeat (first|refine Q4 ?_ _|refine Q7 ?_|refine Q2 ?_ _));exact YH.out) hb);have n4_:=Q0.mk (Qk (by repeat (first|(with_reducible first|exact HB.out|apply Q3|apply Q1|apply Q6|refine Q5 ?_ Ju.out|refine Q5 ?_ JF.out|refine Q5 ?_ UH.out)|exact HB.out)) hb);have n5_:=Q0.mk (hbox);have n6_:=Q0.mk ((by rw [hg];exact (Qh (by repeat (first|(with_reducible first|exact HB.out|apply Q3|apply Q1|apply Q6|refine Q5 ?_ Ju.out|refine Q5 ?_ JF.out|refine Q5 ?_ UH.out)|exact HB.out))):w.heap.size≤QS));have n7_:=n6_;have n8_:=Q0.mk ((by rw [hg];exact Nat.ne_of_lt (QT (g:=Jx) (by (with_reducible repeat (first|refine Q4 ?_ _|refine Q7 ?_|refine Q2 ?_ _));exact YZ.out)):Jx≠QS));have n9_:=Q0.mk (n8_.out.symm);have n10_:=Q0.mk ((by rw [hg];exact Nat.ne_of_lt (QT (g:=Z4) (by (with_reducible repeat (first|refine Q4 ?_ _|refine Q7 ?_|refine Q2 ?_ _));exact Yd.out)):Z4≠QS));have n11_:=Q0.mk (n10_.out.symm);have n12_:=Q0.mk ((by rw [hg];exact Nat.ne_of_lt (QT (g:=YD) (by (with_reducible repeat (first|refine Q4 ?_ _|refine Q7 ?_|refine Q2 ?_ _));exact YH.out)):YD≠QS));have n13_:=Q0.mk (n12_.out.symm);clear HO_13 YZ Yd YH HB;have HO_13:=n0_;have YZ:=n1_;have Yd:=n2_;have YH:=n3_;have HB:=n4_;have Jd:=n5_;have J6:=n6_;have qaQ:=n7_;have JV:=n8_;have KO:=n9_;have Yz:=n10_;have KP:=n11_;have Yi:=n12_;have Yo:=n13_;clear n0_ n1_ n2_ n3_ n4_ n5_ n6_ n7_ n8_ n9_ n10_ n11_ n12_ n13_ hb hbox hg;refine hK.out _ _ ⟨(Q9 Yd.out 0).trans rfl,(Q9 Yd.out 1).trans rfl,(Q9 Yd.out 2).trans rfl,(Q9 Yd.out 3).trans rfl,(Q9 Yd.out 4).trans rfl,(Q9 YH.out 0).trans rfl,(Q9 YH.out 1).trans rfl,(Q9 YH.out 2).trans rfl,(Q9 YH.out 3).trans rfl,(Q9 YH.out 4).trans rfl,(Q9 YH.out 5).trans rfl,((HB.out.cell (World.block_lt_of_cell? w _ ZK)).trans ZK),((HB.out.cell (World.block_lt_of_cell? w _ ZL)).trans ZL)⟩ (fun hHeld => ?_);clear hK K;refine KL (a':=?_) ?_ ?_
                 rotate_left
                 ·
                  show Act.put _ (some 16) _=_
                  simp only [Act.put,List.setIfInBounds_toArray,List.set_cons_zero,List.set_cons_succ,QL,QO]
                  rfl
                 exact KL (by simp only [qaH,Act.put,List.setIfInBounds_toArray,List.set_cons_zero,List.set_cons_succ]) (hCont (QS) _ ⟨hHeld,(by (with_reducible repeat (first|apply Kd.R_alloc|apply Kd.R_drewN|apply Kd.R_drew));exact HO_13.out),(by (with_reducible repeat (first|refine Q4 ?_ _|refine Q7 ?_|refine Q2 ?_ _));exact YZ.out),(by (with_reducible repeat (first|refine Q4 ?_ _|refine Q7 ?_|refine Q2 ?_ _));exact Yd.out),(by (with_reducible repeat (first|refine Q4 ?_ _|refine Q7 ?_|refine Q2 ?_ _));exact YH.out),(by (with_reducible repeat (first|refine Q4 ?_ _|refine Q7 ?_|refine Q2 ?_ _));exact Jd.out),J6.out,qaQ.out,JV.out,KO.out,Yz.out,KP.out,Yi.out,Yo.out,(by repeat (first|(with_reducible first|exact HB.out|apply Q3|apply Q1|apply Q6|refine Q5 ?_ Ju.out|refine Q5 ?_ JF.out|refine Q5 ?_ UH.out|refine Q5 ?_ qaQ.out)|exact HB.out))⟩)
                skip
                refine qcQ ?hg (N:=16) ?hd (cs:=#[.int .i64 0,.int .i64 0,.int .i64 0,.int .i64 0,.int .i64 0,.int .i64 0]) (t:=115) ?hr ?_;(case hd=>rfl);(case hg=>rfl);(case hr=>first|(go_simp;done)|(go_simp;rfl));intro QS hg w48 hbox hb;have n0_:=Q0.mk (Kd.R_below (by (with_reducible repeat (first|apply Kd.R_alloc|apply Kd.R_drewN|apply Kd.R_drew));exact HO_13.out) hb);have n1_:=Q0.mk (Qg (g:=Jx) (by (with_reducible repeat (first|refine Q4 ?_ _|refine Q7 ?_|refine Q2 ?_ _));exact YZ.out) hb);have n2_:=Q0.mk (Qg (g:=Z4) (by (with_reducible repeat (first|refine Q4 ?_ _|refine Q7 ?_|refine Q2 ?_ _));exact Yd.out) hb);have n3_:=Q0.mk (Qg (g:=YD) (by (with_reducible repeat (first|refine Q4 ?_ _|refine Q7 ?_|refine Q2 ?_ _));exact YH.out) hb);have n4_:=Q0.mk (Qk (by repeat (first|(with_reducible first|exact HB.out|apply Q3|apply Q1|apply Q6|refine Q5 ?_ Ju.out|refine Q5 ?_ JF.out|refine Q5 ?_ UH.out)|exact HB.out)) hb);have n5_:=Q0.mk (hbox);have n6_:=Q0.mk ((by rw [hg];exact (Qh (by repeat (first|(with_reducible first|exact HB.out|apply Q3|apply Q1|apply Q6|refine Q5 ?_ Ju.out|refine Q5 ?_ JF.out|refine Q5 ?_ UH.out)|exact HB.out))):w.heap.size≤QS));have n7_:=n6_;have n8_:=Q0.mk ((by rw [hg];exact Nat.ne_of_lt (QT (g:=Jx) (by (with_reducible repeat (first|refine Q4 ?_ _|refine Q7 ?_|refine Q2 ?_ _));exact YZ.out)):Jx≠QS));have n9_:=Q0.mk (n8_.out.symm);have n10_:=Q0.mk ((by rw [hg];exact Nat.ne_of_lt (QT (g:=Z4) (by (with_reducible repeat (first|refine Q4 ?_ _|refine Q7 ?_|refine Q2 ?_ _));exact Yd.out)):Z4≠QS));have n11_:=Q0.mk (n10_.out.symm);have n12_:=Q0.mk ((by rw [hg];exact Nat.ne_of_lt (QT (g:=YD) (by (with_reducible repeat (first|refine Q4 ?_ _|refine Q7 ?_|refine Q2 ?_ _));exact YH.out)):YD≠QS));have n13_:=Q0.mk (n12_.out.symm);clear HO_13 YZ Yd YH HB;have HO_13:=n0_;have YZ:=n1_;have Yd:=n2_;have YH:=n3_;have HB:=n4_;have Jd:=n5_;have J6:=n6_;have qaQ:=n7_;have JV:=n8_;have KO:=n9_;have Yz:=n10_;have KP:=n11_;have Yi:=n12_;have Yo:=n13_;clear n0_ n1_ n2_ n3_ n4_ n5_ n6_ n7_ n8_ n9_ n10_ n11_ n12_ n13_ hb hbox hg;refine hK.out _ _ ⟨(Q9 Yd.out 0).trans rfl,(Q9 Yd.out 1).trans rfl,(Q9 Yd.out 2).trans rfl,(Q9 Yd.out 3).trans rfl,(Q9 Yd.out 4).trans rfl,(Q9 YH.out 0).trans rfl,(Q9 YH.out 1).trans rfl,(Q9 YH.out 2).trans rfl,(Q9 YH.out 3).trans rfl,(Q9 YH.out 4).trans rfl,(Q9 YH.out 5).trans rfl,((HB.out.cell (World.block_lt_of_cell? w _ ZK)).trans ZK),((HB.out.cell (World.block_lt_of_cell? w _ ZL)).trans ZL)⟩ (fun hHeld => ?_);clear hK K;refine KL (a':=?_) ?_ ?_
                rotate_left
                ·
                 show Act.put _ (some 16) _=_
                 simp only [Act.put,List.setIfInBounds_toArray,List.set_cons_zero,List.set_cons_succ,QL,QO]
                 rfl
                refine one_ (i:=11) (N:=some 75) #[true,true,true,true,true,true,true,true,true,true,true,true,false,false,false,true,false,false] rfl rfl (OG HT_.out (by kernel_rfl)) (by decide) (fun K hK => ?_);refine qhW Try.func77 (by kernel_rfl) rfl #[.agg #[.slice QD Qa.length Qu,.slice QB Qf.length Qv,.slice QK Qb.length Qw,.int .i64 Y0,.int .i64 QU],.agg #[.int .i64 ZP,.int .i64 ZE,.int .i64 Zz,.int .i64 Zu,.int .i64 Zo,.int .i64 Zh],.int .i64 (rd l1 JL),.int .i64 (rd l2 JL)] 64 (by rfl) rfl rfl rfl (by (try simp only [List.map_toArray,List.map_cons,List.map_nil]);first|done|rfl|(simp only [List.length_drop,List.length_take];rfl)) ?_
                with_reducible refine (YY.calls _ _ Qa _ _ Qf _ _ Qb Y0 QU ZP ZE Zz Zu Zo Zh (rd l1 JL) (rd l2 JL) t171 ON t173 UQ t175 WU XK _ ?side1 ?side2 ?side3 ?side4 ?side5 ?side6 A45.out).mono ?_
                (case side1=>repeat (first|exact (Kd.C_below YV.out HB.out)|(with_reducible refine Kd.C_alloc ?_ _)|(with_reducible refine Kd.C_drewN ?_ _)|(with_reducible refine Kd.C_drew ?_)))
                (case side2=>exact ZA.out)
                (case side3=>repeat (first|exact (Kd.C_below Zj.out HB.out)|(with_reducible refine Kd.C_alloc ?_ _)|(with_reducible refine Kd.C_drewN ?_ _)|(with_reducible refine Kd.C_drew ?_)))
                (case side4=>exact ZB.out)
                (case side5=>repeat (first|exact (Kd.C_below Z5.out HB.out)|(with_reducible refine Kd.C_alloc ?_ _)|(with_reducible refine Kd.C_drewN ?_ _)|(with_reducible refine Kd.C_drew ?_)))
                (case side6=>exact ZC.out)
                rintro e w49 ⟨rfl,hb⟩;refine ⟨_,rfl,?_⟩;have n0_:=Q0.mk (Kd.R_below (by (with_reducible repeat (first|apply Kd.R_alloc|apply Kd.R_drewN|apply Kd.R_drew));exact HO_13.out) hb);have n1_:=Q0.mk (Qg (g:=Jx) (by (with_reducible repeat (first|refine Q4 ?_ _|refine Q7 ?_|refine Q2 ?_ _));exact YZ.out) hb);have n2_:=Q0.mk (Qg (g:=Z4) (by (with_reducible repeat (first|refine Q4 ?_ _|refine Q7 ?_|refine Q2 ?_ _));exact Yd.out) hb);have n3_:=Q0.mk (Qg (g:=YD) (by (with_reducible repeat (first|refine Q4 ?_ _|refine Q7 ?_|refine Q2 ?_ _));exact YH.out) hb);have n4_:=Q0.mk (Qg (g:=QS) (by (with_reducible repeat (first|refine Q4 ?_ _|refine Q7 ?_|refine Q2 ?_ _));exact Jd.out) hb);have n5_:=Q0.mk (Qk (by repeat (first|(with_reducible first|exact HB.out|apply Q3|apply Q1|apply Q6|refine Q5 ?_ Ju.out|refine Q5 ?_ JF.out|refine Q5 ?_ UH.out|refine Q5 ?_ qaQ.out)|exact HB.out)) hb);clear HO_13 YZ Yd YH Jd HB;have HO_13:=n0_;have YZ:=n1_;have Yd:=n2_;have YH:=n3_;have Jd:=n4_;have HB:=n5_;clear n0_ n1_ n2_ n3_ n4_ n5_
                (try clear hb)
                (try clear hb2)
                (try clear hk)
                (try clear hi)
                refine hK.out _ _ ⟨(Q9 Yd.out 0).trans rfl,(Q9 Yd.out 1).trans rfl,(Q9 Yd.out 2).trans rfl,(Q9 Yd.out 3).trans rfl,(Q9 Yd.out 4).trans rfl,(Q9 YH.out 0).trans rfl,(Q9 YH.out 1).trans rfl,(Q9 YH.out 2).trans rfl,(Q9 YH.out 3).trans rfl,(Q9 YH.out 4).trans rfl,(Q9 YH.out 5).trans rfl,((HB.out.cell (World.block_lt_of_cell? w _ ZK)).trans ZK),((HB.out.cell (World.block_lt_of_cell? w _ ZL)).trans ZL)⟩ (fun hHeld => ?_);clear hK K;refine KL (a':=?_) ?_ ?_
                rotate_left
                ·
                 show Act.put _ (some 75) _=_
                 simp only [Act.put,List.setIfInBounds_toArray,List.set_cons_zero,List.set_cons_succ,QL,QO]
                 rfl
                refine Yu (i:=12) (N:=some 63) (v:=?_) (a':=?_) #[true,true,true,true,true,true,true,true,true,true,true,true,true,false,false,true,false,false] rfl rfl (Y8 HT_.out (by kernel_rfl)) (fun _ _ _ h=>h) (Or.inl ⟨by rfl,?_⟩) ?_ ?_
                rotate_left
                ·
                 intro w'
                 go_simp
                 with_reducible rfl
                rotate_left
                ·
                 simp only [Act.put,List.setIfInBounds_toArray,List.set_cons_zero,List.set_cons_succ,QL,QO]
                 rfl
                refine Yu (i:=13) (N:=some 76) (v:=?_) (a':=?_) #[true,true,true,true,true,true,true,true,true,true,true,true,true,true,false,true,false,false] rfl rfl (Y8 HT_.out (by kernel_rfl)) (fun _ _ _ h=>h) (Or.inl ⟨by rfl,?_⟩) ?_ ?_
                rotate_left
                ·
                 intro w'
                 go_simp
                 with_reducible rfl
                rotate_left
                ·
                 simp only [Act.put,List.setIfInBounds_toArray,List.set_cons_zero,List.set_cons_succ,QL,QO]
                 rfl
                refine Yu (i:=14) (N:=some 77) (v:=?_) (a':=?_) #[true,true,true,true,true,true,true,true,true,true,true,true,true,true,true,true,false,false] rfl rfl (Y8 HT_.out (by kernel_rfl)) (fun _ _ _ h=>h) (Or.inl ⟨by rfl,?_⟩) ?_ ?_
                rotate_left
                ·
                 intro w'
                 go_simp
                 with_reducible rfl
                rotate_left
                ·
                 simp only [Act.put,List.setIfInBounds_toArray,List.set_cons_zero,List.set_cons_succ,QL,QO]
                 rfl
                exact KL (by simp only [qaH,Act.put,List.setIfInBounds_toArray,List.set_cons_zero,List.set_cons_succ]) (hCont (QS) _ ⟨hHeld,(by (with_reducible repeat (first|apply Kd.R_alloc|apply Kd.R_drewN|apply Kd.R_drew));exact HO_13.out),(by (with_reducible repeat (first|refine Q4 ?_ _|refine Q7 ?_|refine Q2 ?_ _));exact YZ.out),(by (with_reducible repeat (first|refine Q4 ?_ _|refine Q7 ?_|refine Q2 ?_ _));exact Yd.out),(by (with_reducible repeat (first|refine Q4 ?_ _|refine Q7 ?_|refine Q2 ?_ _));exact YH.out),(by (with_reducible repeat (first|refine Q4 ?_ _|refine Q7 ?_|refine Q2 ?_ _));exact Jd.out),J6.out,qaQ.out,JV.out,KO.out,Yz.out,KP.out,Yi.out,Yo.out,(by repeat (first|(with_reducible first|exact HB.out|apply Q3|apply Q1|apply Q6|refine Q5 ?_ Ju.out|refine Q5 ?_ JF.out|refine Q5 ?_ UH.out|refine Q5 ?_ qaQ.out)|exact HB.out))⟩)
               rintro QS w50 ⟨hS_,h0_,h1_,h2_,h3_,h4_,h5_,h6_,h7_,h8_,h9_,h10_,h11_,h12_,h13_⟩;have n0_:Q0 (Kd.R (Kd.int .i64) 3 w50 w.heap.size (fun k_=>(w.heap.size≤k_)) u13 KM):=⟨h0_⟩;have n1_:Q0 (w50.heap[Jx]? = some (.cells #[.slice QD Qa.length Qu,.slice QB Qf.length Qv,.slice QK Qb.length Qw,.int .i64 Y0,.int .i64 QU] 39 (0,0))):=⟨h1_⟩;have n2_:Q0 (w50.heap[Z4]? = some (.cells #[.slice QD Qa.length Qu,.slice QB Qf.length Qv,.slice QK Qb.length Qw,.int .i64 Y0,.int .i64 QU] 111 (0,0))):=⟨h2_⟩;have n3_:Q0 (w50.heap[YD]? = some (.cells #[.int .i64 ZP,.int .i64 ZE,.int .i64 Zz,.int .i64 Zu,.int .i64 Zo,.int .i64 Zh] 115 (0,0))):=⟨h3_⟩;have n4_:Q0 (w50.heap[QS]? = some (.cells #[.int .i64 0,.int .i64 0,.int .i64 0,.int .i64 0,.int .i64 0,.int .i64 0] 115 (0,0))):=⟨h4_⟩;have n5_:Q0 (w.heap.size≤QS):=⟨h5_⟩;have n6_:Q0 (w.heap.size≤QS):=⟨h6_⟩;have n7_:Q0 (Jx≠QS):=⟨h7_⟩;have n8_:Q0 (QS≠Jx):=⟨h8_⟩;have n9_:Q0 (Z4≠QS):=⟨h9_⟩;have n10_:Q0 (QS≠Z4):=⟨h10_⟩;have n11_:Q0 (YD≠QS):=⟨h11_⟩;have n12_:Q0 (QS≠YD):=⟨h12_⟩;have n13_:Q0 (Below w.heap.size w w50):=⟨h13_⟩;clear HO_13 YZ Yd YH HB h0_ h1_ h2_ h3_ h4_ h5_ h6_ h7_ h8_ h9_ h10_ h11_ h12_ h13_;have HO_13:=n0_;have YZ:=n1_;have Yd:=n2_;have YH:=n3_;have Jd:=n4_;have J6:=n5_;have qaQ:=n6_;have JV:=n7_;have KO:=n8_;have Yz:=n9_;have KP:=n10_;have Yi:=n11_;have Yo:=n12_;have HB:=n13_;clear n0_ n1_ n2_ n3_ n4_ n5_ n6_ n7_ n8_ n9_ n10_ n11_ n12_ n13_;have hHeld:w50.cell? ⟨Z4,0,none⟩=some (.slice QD Qa.length Qu)∧w50.cell? ⟨Z4,1,none⟩=some (.slice QB Qf.length Qv)∧w50.cell? ⟨Z4,2,none⟩=some (.slice QK Qb.length Qw)∧w50.cell? ⟨Z4,3,none⟩=some (.int .i64 Y0)∧w50.cell? ⟨Z4,4,none⟩=some (.int .i64 QU)∧w50.cell? ⟨YD,0,none⟩=some (.int .i64 ZP)∧w50.cell? ⟨YD,1,none⟩=some (.int .i64 ZE)∧w50.cell? ⟨YD,2,none⟩=some (.int .i64 Zz)∧w50.cell? ⟨YD,3,none⟩=some (.int .i64 Zu)∧w50.cell? ⟨YD,4,none⟩=some (.int .i64 Zo)∧w50.cell? ⟨YD,5,none⟩=some (.int .i64 Zh)∧w50.cell? (qp7.add (JL).toNat)=some (.int .i64 (rd l1 JL))∧w50.cell? (qp8.add (JL).toNat)=some (.int .i64 (rd l2 JL)):=hS_;refine KL (a':=?_) ?_ ?_
               rotate_left
               ·
                simp only [qaH,Act.put,List.setIfInBounds_toArray,List.set_cons_zero,List.set_cons_succ]
                rfl
               refine Yu (i:=16) (N:=some 15) (v:=?_) (a':=?_) #[true,true,true,true,true,true,true,true,true,true,true,true,true,true,true,true,true,false] rfl rfl (Y8 HT_.out (by kernel_rfl)) (fun _ _ _ h=>h) (Or.inl ⟨by rfl,?_⟩) ?_ ?_
               rotate_left
               ·
                intro w'
                go_simp
                with_reducible rfl
               rotate_left
               ·
                simp only [Act.put,List.setIfInBounds_toArray,List.set_cons_zero,List.set_cons_succ,QL,QO]
                rfl
               refine one_ (i:=17) (N:=none) #[true,true,true,true,true,true,true,true,true,true,true,true,true,true,true,true,true,true] rfl rfl (OG HT_.out (by kernel_rfl)) (by decide) (fun K hK => ?_);have qLc:w50.cell? ⟨QS,0,none⟩=some (.int .i64 0):=(Q9 Jd.out 0).trans rfl;have qJa:=Q8 Jd.out 0;have qF0:=JV.out;have qF1:=Yz.out;have qF2:=Yi.out;have qFe:=KO.out;have qFf:=KP.out;have qFg:=Yo.out;have qLd:w50.cell? ⟨QS,1,none⟩=some (.int .i64 0):=(Q9 Jd.out 1).trans rfl;have qJb:=Q8 Jd.out 1;have qF3:=JV.out;have qF4:=Yz.out;have qF5:=Yi.out;have qFh:=KO.out;have qFi:=KP.out;have qFj:=Yo.out;have qLe:w50.cell? ⟨QS,2,none⟩=some (.int .i64 0):=(Q9 Jd.out 2).trans rfl;have qJc:=Q8 Jd.out 2;have qF6:=JV.out;have qF7:=Yz.out;have qF8:=Yi.out;have qFk:=KO.out;have qFl:=KP.out;have qFm:=Yo.out;have qLf:w50.cell? ⟨QS,3,none⟩=some (.int .i64 0):=(Q9 Jd.out 3).trans rfl;have qJd:=Q8 Jd.out 3;have qF9:=JV.out;have qGa:=Yz.out;have qGb:=Yi.out;have qFn:=KO.out;have qFo:=KP.out;have qFp:=Yo.out;have qLg:w50.cell? ⟨QS,4,none⟩=some (.int .i64 0):=(Q9 Jd.out 4).trans rfl;have qJe:=Q8 Jd.out 4;have qGc:=JV.out;have qGd:=Yz.out;have qGe:=Yi.out;have qFq:=KO.out;have qFr:=KP.out;have qFs:=Yo.out;have qLh:w50.cell? ⟨QS,5,none⟩=some (.int .i64 0):=(Q9 Jd.out 5).trans rfl;have qJf:=Q8 Jd.out 5;have qGf:=JV.out;have qGg:=Yz.out;have qGh:=Yi.out;have qFt:=KO.out;have qFu:=KP.out;have qFv:=Yo.out;refine qrx (w1:=?_) (by rfl) rfl ?_ ?_
               rotate_left
               ·
                go_simp
                rfl
               refine hK.out _ _ ⟨((Qp (p:=⟨QS,_,none⟩) Yz.out _).trans (((Qp (p:=⟨QS,_,none⟩) Yz.out _).trans (((Qp (p:=⟨QS,_,none⟩) Yz.out _).trans (((Qp (p:=⟨QS,_,none⟩) Yz.out _).trans (((Qp (p:=⟨QS,_,none⟩) Yz.out _).trans (((Qp (p:=⟨QS,_,none⟩) Yz.out _).trans (hHeld.1)))))))))))),((Qp (p:=⟨QS,_,none⟩) Yz.out _).trans (((Qp (p:=⟨QS,_,none⟩) Yz.out _).trans (((Qp (p:=⟨QS,_,none⟩) Yz.out _).trans (((Qp (p:=⟨QS,_,none⟩) Yz.out _).trans (((Qp (p:=⟨QS,_,none⟩) Yz.out _).trans (((Qp (p:=⟨QS,_,none⟩) Yz.out _).trans (hHeld.2.1)))))))))))),((Qp (p:=⟨QS,_,none⟩) Yz.out _).trans (((Qp (p:=⟨QS,_,none⟩) Yz.out _).trans (((Qp (p:=⟨QS,_,none⟩) Yz.out _).trans (((Qp (p:=⟨QS,_,none⟩) Yz.out _).trans (((Qp (p:=⟨QS,_,none⟩) Yz.out _).trans (((Qp (p:=⟨QS,_,none⟩) Yz.out _).trans (hHeld.2.2.1)))))))))))),((Qp (p:=⟨QS,_,none⟩) Yz.out _).trans (((Qp (p:=⟨QS,_,none⟩) Yz.out _).trans (((Qp (p:=⟨QS,_,none⟩) Yz.out _).trans (((Qp (p:=⟨QS,_,none⟩) Yz.out _).trans (((Qp (p:=⟨QS,_,none⟩) Yz.out _).trans (((Qp (p:=⟨QS,_,none⟩) Yz.out _).trans (hHeld.2.2.2.1)))))))))))),((Qp (p:=⟨QS,_,none⟩) Yz.out _).trans (((Qp (p:=⟨QS,_,none⟩) Yz.out _).trans (((Qp (p:=⟨QS,_,none⟩) Yz.out _).trans (((Qp (p:=⟨QS,_,none⟩) Yz.out _).trans (((Qp (p:=⟨QS,_,none⟩) Yz.out _).trans (((Qp (p:=⟨QS,_,none⟩) Yz.out _).trans (hHeld.2.2.2.2.1)))))))))))),((Qp (p:=⟨QS,_,none⟩) Yi.out _).trans (((Qp (p:=⟨QS,_,none⟩) Yi.out _).trans (((Qp (p:=⟨QS,_,none⟩) Yi.out _).trans (((Qp (p:=⟨QS,_,none⟩) Yi.out _).trans (((Qp (p:=⟨QS,_,none⟩) Yi.out _).trans (((Qp (p:=⟨QS,_,none⟩) Yi.out _).trans (hHeld.2.2.2.2.2.1)))))))))))),((Qp (p:=⟨QS,_,none⟩) Yi.out _).trans (((Qp (p:=⟨QS,_,none⟩) Yi.out _).trans (((Qp (p:=⟨QS,_,none⟩) Yi.out _).trans (((Qp (p:=⟨QS,_,none⟩) Yi.out _).trans (((Qp (p:=⟨QS,_,none⟩) Yi.out _).trans (((Qp (p:=⟨QS,_,none⟩) Yi.out _).trans (hHeld.2.2.2.2.2.2.1)))))))))))),((Qp (p:=⟨QS,_,none⟩) Yi.out _).trans (((Qp (p:=⟨QS,_,none⟩) Yi.out _).trans (((Qp (p:=⟨QS,_,none⟩) Yi.out _).trans (((Qp (p:=⟨QS,_,none⟩) Yi.out _).trans (((Qp (p:=⟨QS,_,none⟩) Yi.out _).trans (((Qp (p:=⟨QS,_,none⟩) Yi.out _).trans (hHeld.2.2.2.2.2.2.2.1)))))))))))),((Qp (p:=⟨QS,_,none⟩) Yi.out _).trans (((Qp (p:=⟨QS,_,none⟩) Yi.out _).trans (((Qp (p:=⟨QS,_,none⟩) Yi.out _).trans (((Qp (p:=⟨QS,_,none⟩) Yi.out _).trans (((Qp (p:=⟨QS,_,none⟩) Yi.out _).trans (((Qp (p:=⟨QS,_,none⟩) Yi.out _).trans (hHeld.2.2.2.2.2.2.2.2.1)))))))))))),((Qp (p:=⟨QS,_,none⟩) Yi.out _).trans (((Qp (p:=⟨QS,_,none⟩) Yi.out _).trans (((Qp (p:=⟨QS,_,none⟩) Yi.out _).trans (((Qp (p:=⟨QS,_,none⟩) Yi.out _).trans (((Qp (p:=⟨QS,_,none⟩) Yi.out _).trans (((Qp (p:=⟨QS,_,none⟩) Yi.out _).trans (hHeld.2.2.2.2.2.2.2.2.2.1)))))))))))),((Qp (p:=⟨QS,_,none⟩) Yi.out _).trans (((Qp (p:=⟨QS,_,none⟩) Yi.out _).trans (((Qp (p:=⟨QS,_,none⟩) Yi.out _).trans (((Qp (p:=⟨QS,_,none⟩) Yi.out _).trans (((Qp (p:=⟨QS,_,none⟩) Yi.out _).trans (((Qp (p:=⟨QS,_,none⟩) Yi.out _).trans (hHeld.2.2.2.2.2.2.2.2.2.2.1)))))))))))),((Qp (p:=⟨QS,_,none⟩) (by first|exact Nat.ne_of_lt (Nat.lt_of_lt_of_le (by have:=World.block_lt_of_cell? _ _ ZK;first|rwa [Qm] at this|exact this) J6.out)|(rw [Qm];exact Nat.ne_of_lt (Nat.lt_of_lt_of_le (by have:=World.block_lt_of_cell? _ _ ZK;first|rwa [Qm] at this|exact this) J6.out))|(show (Addr.add _ _).block≠_;rw [Qm];exact Nat.ne_of_lt (Nat.lt_of_lt_of_le (by have:=World.block_lt_of_cell? _ _ ZK;first|rwa [Qm] at this|exact this) J6.out))|(dsimp only;exact Nat.ne_of_lt (Nat.lt_of_lt_of_le (by have:=World.block_lt_of_cell? _ _ ZK;first|rwa [Qm] at this|exact this) J6.out))) _).trans (((Qp (p:=⟨QS,_,none⟩) (by first|exact Nat.ne_of_lt (Nat.lt_of_lt_of_le (by have:=World.block_lt_of_cell? _ _ ZK;first|rwa [Qm] at this|exact this) J6.out)|(rw [Qm];exact Nat.ne_of_lt (Nat.lt_of_lt_of_le (by have:=World.block_lt_of_cell? _ _ ZK;first|rwa [Qm] at this|exact this) J6.out))|(show (Addr.add _ _).block≠_;rw [Qm];exact Nat.ne_of_lt (Nat.lt_of_lt_of_le (by have:=World.block_lt_of_cell? _ _ ZK;first|rwa [Qm] at this|exact this) J6.out))|(dsimp only;exact Nat.ne_of_lt (Nat.lt_of_lt_of_le (by have:=World.block_lt_of_cell? _ _ ZK;first|rwa [Qm] at this|exact this) J6.out))) _).trans (((Qp (p:=⟨QS,_,none⟩) (by first|exact Nat.ne_of_lt (Nat.lt_of_lt_of_le (by have:=World.block_lt_of_cell? _ _ ZK;first|rwa [Qm] at this|exact this) J6.out)|(rw [Qm];exact Nat.ne_of_lt (Nat.lt_of_lt_of_le (by have:=World.block_lt_of_cell? _ _ ZK;first|rwa [Qm] at this|exact this) J6.out))|(show (Addr.add _ _).block≠_;rw [Qm];exact Nat.ne_of_lt (Nat.lt_of_lt_of_le (by have:=World.block_lt_of_cell? _ _ ZK;first|rwa [Qm] at this|exact this) J6.out))|(dsimp only;exact Nat.ne_of_lt (Nat.lt_of_lt_of_le (by have:=World.block_lt_of_cell? _ _ ZK;first|rwa [Qm] at this|exact this) J6.out))) _).trans (((Qp (p:=⟨QS,_,none⟩) (by first|exact Nat.ne_of_lt (Nat.lt_of_lt_of_le (by have:=World.block_lt_of_cell? _ _ ZK;first|rwa [Qm] at this|exact this) J6.out)|(rw [Qm];exact Nat.ne_of_lt (Nat.lt_of_lt_of_le (by have:=World.block_lt_of_cell? _ _ ZK;first|rwa [Qm] at this|exact this) J6.out))|(show (Addr.add _ _).block≠_;rw [Qm];exact Nat.ne_of_lt (Nat.lt_of_lt_of_le (by have:=World.block_lt_of_cell? _ _ ZK;first|rwa [Qm] at this|exact this) J6.out))|(dsimp only;exact Nat.ne_of_lt (Nat.lt_of_lt_of_le (by have:=World.block_lt_of_cell? _ _ ZK;first|rwa [Qm] at this|exact this) J6.out))) _).trans (((Qp (p:=⟨QS,_,none⟩) (by first|exact Nat.ne_of_lt (Nat.lt_of_lt_of_le (by have:=World.block_lt_of_cell? _ _ ZK;first|rwa [Qm] at this|exact this) J6.out)|(rw [Qm];exact Nat.ne_of_lt (Nat.lt_of_lt_of_le (by have:=World.block_lt_of_cell? _ _ ZK;first|rwa [Qm] at this|exact this) J6.out))|(show (Addr.add _ _).block≠_;rw [Qm];exact Nat.ne_of_lt (Nat.lt_of_lt_of_le (by have:=World.block_lt_of_cell? _ _ ZK;first|rwa [Qm] at this|exact this) J6.out))|(dsimp only;exact Nat.ne_of_lt (Nat.lt_of_lt_of_le (by have:=World.block_lt_of_cell? _ _ ZK;first|rwa [Qm] at this|exact this) J6.out))) _).trans (((Qp (p:=⟨QS,_,none⟩) (by first|exact Nat.ne_of_lt (Nat.lt_of_lt_of_le (by have:=World.block_lt_of_cell? _ _ ZK;first|rwa [Qm] at this|exact this) J6.out)|(rw [Qm];exact Nat.ne_of_lt (Nat.lt_of_lt_of_le (by have:=World.block_lt_of_cell? _ _ ZK;first|rwa [Qm] at this|exact this) J6.out))|(show (Addr.add _ _).block≠_;rw [Qm];exact Nat.ne_of_lt (Nat.lt_of_lt_of_le (by have:=World.block_lt_of_cell? _ _ ZK;first|rwa [Qm] at this|exact this) J6.out))|(dsimp only;exact Nat.ne_of_lt (Nat.lt_of_lt_of_le (by have:=World.block_lt_of_cell? _ _ ZK;first|rwa [Qm] at this|exact this) J6.out))) _).trans (hHeld.2.2.2.2.2.2.2.2.2.2.2.1)))))))))))),((Qp (p:=⟨QS,_,none⟩) (by first|exact Nat.ne_of_lt (Nat.lt_of_lt_of_le (by have:=World.block_lt_of_cell? _ _ ZL;first|rwa [Qm] at this|exact this) J6.out)|(rw [Qm];exact Nat.ne_of_lt (Nat.lt_of_lt_of_le (by have:=World.block_lt_of_cell? _ _ ZL;first|rwa [Qm] at this|exact this) J6.out))|(show (Addr.add _ _).block≠_;rw [Qm];exact Nat.ne_of_lt (Nat.lt_of_lt_of_le (by have:=World.block_lt_of_cell? _ _ ZL;first|rwa [Qm] at this|exact this) J6.out))|(dsimp only;exact Nat.ne_of_lt (Nat.lt_of_lt_of_le (by have:=World.block_lt_of_cell? _ _ ZL;first|rwa [Qm] at this|exact this) J6.out))) _).trans (((Qp (p:=⟨QS,_,none⟩) (by first|exact Nat.ne_of_lt (Nat.lt_of_lt_of_le (by have:=World.block_lt_of_cell? _ _ ZL;first|rwa [Qm] at this|exact this) J6.out)|(rw [Qm];exact Nat.ne_of_lt (Nat.lt_of_lt_of_le (by have:=World.block_lt_of_cell? _ _ ZL;first|rwa [Qm] at this|exact this) J6.out))|(show (Addr.add _ _).block≠_;rw [Qm];exact Nat.ne_of_lt (Nat.lt_of_lt_of_le (by have:=World.block_lt_of_cell? _ _ ZL;first|rwa [Qm] at this|exact this) J6.out))|(dsimp only;exact Nat.ne_of_lt (Nat.lt_of_lt_of_le (by have:=World.block_lt_of_cell? _ _ ZL;first|rwa [Qm] at this|exact this) J6.out))) _).trans (((Qp (p:=⟨QS,_,none⟩) (by first|exact Nat.ne_of_lt (Nat.lt_of_lt_of_le (by have:=World.block_lt_of_cell? _ _ ZL;first|rwa [Qm] at this|exact this) J6.out)|(rw [Qm];exact Nat.ne_of_lt (Nat.lt_of_lt_of_le (by have:=World.block_lt_of_cell? _ _ ZL;first|rwa [Qm] at this|exact this) J6.out))|(show (Addr.add _ _).block≠_;rw [Qm];exact Nat.ne_of_lt (Nat.lt_of_lt_of_le (by have:=World.block_lt_of_cell? _ _ ZL;first|rwa [Qm] at this|exact this) J6.out))|(dsimp only;exact Nat.ne_of_lt (Nat.lt_of_lt_of_le (by have:=World.block_lt_of_cell? _ _ ZL;first|rwa [Qm] at this|exact this) J6.out))) _).trans (((Qp (p:=⟨QS,_,none⟩) (by first|exact Nat.ne_of_lt (Nat.lt_of_lt_of_le (by have:=World.block_lt_of_cell? _ _ ZL;first|rwa [Qm] at this|exact this) J6.out)|(rw [Qm];exact Nat.ne_of_lt (Nat.lt_of_lt_of_le (by have:=World.block_lt_of_cell? _ _ ZL;first|rwa [Qm] at this|exact this) J6.out))|(show (Addr.add _ _).block≠_;rw [Qm];exact Nat.ne_of_lt (Nat.lt_of_lt_of_le (by have:=World.block_lt_of_cell? _ _ ZL;first|rwa [Qm] at this|exact this) J6.out))|(dsimp only;exact Nat.ne_of_lt (Nat.lt_of_lt_of_le (by have:=World.block_lt_of_cell? _ _ ZL;first|rwa [Qm] at this|exact this) J6.out))) _).trans (((Qp (p:=⟨QS,_,none⟩) (by first|exact Nat.ne_of_lt (Nat.lt_of_lt_of_le (by have:=World.block_lt_of_cell? _ _ ZL;first|rwa [Qm] at this|exact this) J6.out)|(rw [Qm];exact Nat.ne_of_lt (Nat.lt_of_lt_of_le (by have:=World.block_lt_of_cell? _ _ ZL;first|rwa [Qm] at this|exact this) J6.out))|(show (Addr.add _ _).block≠_;rw [Qm];exact Nat.ne_of_lt (Nat.lt_of_lt_of_le (by have:=World.block_lt_of_cell? _ _ ZL;first|rwa [Qm] at this|exact this) J6.out))|(dsimp only;exact Nat.ne_of_lt (Nat.lt_of_lt_of_le (by have:=World.block_lt_of_cell? _ _ ZL;first|rwa [Qm] at this|exact this) J6.out))) _).trans (((Qp (p:=⟨QS,_,none⟩) (by first|exact Nat.ne_of_lt (Nat.lt_of_lt_of_le (by have:=World.block_lt_of_cell? _ _ ZL;first|rwa [Qm] at this|exact this) J6.out)|(rw [Qm];exact Nat.ne_of_lt (Nat.lt_of_lt_of_le (by have:=World.block_lt_of_cell? _ _ ZL;first|rwa [Qm] at this|exact this) J6.out))|(show (Addr.add _ _).block≠_;rw [Qm];exact Nat.ne_of_lt (Nat.lt_of_lt_of_le (by have:=World.block_lt_of_cell? _ _ ZL;first|rwa [Qm] at this|exact this) J6.out))|(dsimp only;exact Nat.ne_of_lt (Nat.lt_of_lt_of_le (by have:=World.block_lt_of_cell? _ _ ZL;first|rwa [Qm] at this|exact this) J6.out))) _).trans (hHeld.2.2.2.2.2.2.2.2.2.2.2.2))))))))))))⟩ (fun hHeld => ?_);clear hK K;refine qcU (X1 HT_.out (by kernel_rfl)) ?_
               try go_wp2
               have n0_:Q0 (Kd.R (Kd.int .i64) 3 ((((((w50.setCell ⟨QS,0,none⟩ (.int .i64 ON)).setCell ⟨QS,1,none⟩ (.int .i64 t173)).setCell ⟨QS,2,none⟩ (.int .i64 UQ)).setCell ⟨QS,3,none⟩ (.int .i64 t175)).setCell ⟨QS,4,none⟩ (.int .i64 WU)).setCell ⟨QS,5,none⟩ (.int .i64 XK)) w.heap.size (fun k_=>(w.heap.size≤k_)) u13 KM):=⟨by (with_reducible repeat (first|apply Kd.R_alloc|apply Kd.R_drewN|apply Kd.R_drew));exact Kd.R_mono (Kd.R_far (p:=⟨QS,5,none⟩) (Kd.R_far (p:=⟨QS,4,none⟩) (Kd.R_far (p:=⟨QS,3,none⟩) (Kd.R_far (p:=⟨QS,2,none⟩) (Kd.R_far (p:=⟨QS,1,none⟩) (Kd.R_far (p:=⟨QS,0,none⟩) (Kd.R_types HO_13.out Jd.out (by decide)) (fun _ hk=>hk.2) (.int .i64 ON)) (fun _ hk=>hk.2) (.int .i64 t173)) (fun _ hk=>hk.2) (.int .i64 UQ)) (fun _ hk=>hk.2) (.int .i64 t175)) (fun _ hk=>hk.2) (.int .i64 WU)) (fun _ hk=>hk.2) (.int .i64 XK)) (fun _ hk=>hk.1)⟩;have n1_:Q0 (((((((w50.setCell ⟨QS,0,none⟩ (.int .i64 ON)).setCell ⟨QS,1,none⟩ (.int .i64 t173)).setCell ⟨QS,2,none⟩ (.int .i64 UQ)).setCell ⟨QS,3,none⟩ (.int .i64 t175)).setCell ⟨QS,4,none⟩ (.int .i64 WU)).setCell ⟨QS,5,none⟩ (.int .i64 XK)).heap[Jx]? = some (.cells #[.slice QD Qa.length Qu,.slice QB Qf.length Qv,.slice QK Qb.length Qw,.int .i64 Y0,.int .i64 QU] 39 (0,0))):=⟨by (with_reducible repeat (first|refine Q4 ?_ _|refine Q7 ?_|refine Q2 ?_ _));refine Qr ?_ JV.out _;(with_reducible repeat (first|refine Q4 ?_ _|refine Q7 ?_|refine Q2 ?_ _));refine Qr ?_ JV.out _;(with_reducible repeat (first|refine Q4 ?_ _|refine Q7 ?_|refine Q2 ?_ _));refine Qr ?_ JV.out _;(with_reducible repeat (first|refine Q4 ?_ _|refine Q7 ?_|refine Q2 ?_ _));refine Qr ?_ JV.out _;(with_reducible repeat (first|refine Q4 ?_ _|refine Q7 ?_|refine Q2 ?_ _));refine Qr ?_ JV.out _;(with_reducible repeat (first|refine Q4 ?_ _|refine Q7 ?_|refine Q2 ?_ _));refine Qr ?_ JV.out _;(with_reducible repeat (first|refine Q4 ?_ _|refine Q7 ?_|refine Q2 ?_ _));exact YZ.out⟩;have n2_:Q0 (((((((w50.setCell ⟨QS,0,none⟩ (.int .i64 ON)).setCell ⟨QS,1,none⟩ (.int .i64 t173)).setCell ⟨QS,2,none⟩ (.int .i64 UQ)).setCell ⟨QS,3,none⟩ (.int .i64 t175)).setCell ⟨QS,4,none⟩ (.int .i64 WU)).setCell ⟨QS,5,none⟩ (.int .i64 XK)).heap[Z4]? = some (.cells #[.slice QD Qa.length Qu,.slice QB Qf.length Qv,.slice QK Qb.length Qw,.int .i64 Y0,.int .i64 QU] 111 (0,0))):=⟨by (with_reducible repeat (first|refine Q4 ?_ _|refine Q7 ?_|refine Q2 ?_ _));refine Qr ?_ Yz.out _;(with_reducible repeat (first|refine Q4 ?_ _|refine Q7 ?_|refine Q2 ?_ _));refine Qr ?_ Yz.out _;(with_reducible repeat (first|refine Q4 ?_ _|refine Q7 ?_|refine Q2 ?_ _));refine Qr ?_ Yz.out _;(with_reducible repeat (first|refine Q4 ?_ _|refine Q7 ?_|refine Q2 ?_ _));refine Qr ?_ Yz.out _;(with_reducible repeat (first|refine Q4 ?_ _|refine Q7 ?_|refine Q2 ?_ _));refine Qr ?_ Yz.out _;(with_reducible repeat (first|refine Q4 ?_ _|refine Q7 ?_|refine Q2 ?_ _));refine Qr ?_ Yz.out _;(with_reducible repeat (first|refine Q4 ?_ _|refine Q7 ?_|refine Q2 ?_ _));exact Yd.out⟩;have n3_:Q0 (((((((w50.setCell ⟨QS,0,none⟩ (.int .i64 ON)).setCell ⟨QS,1,none⟩ (.int .i64 t173)).setCell ⟨QS,2,none⟩ (.int .i64 UQ)).setCell ⟨QS,3,none⟩ (.int .i64 t175)).setCell ⟨QS,4,none⟩ (.int .i64 WU)).setCell ⟨QS,5,none⟩ (.int .i64 XK)).heap[YD]? = some (.cells #[.int .i64 ZP,.int .i64 ZE,.int .i64 Zz,.int .i64 Zu,.int .i64 Zo,.int .i64 Zh] 115 (0,0))):=⟨by (with_reducible repeat (first|refine Q4 ?_ _|refine Q7 ?_|refine Q2 ?_ _));refine Qr ?_ Yi.out _;(with_reducible repeat (first|refine Q4 ?_ _|refine Q7 ?_|refine Q2 ?_ _));refine Qr ?_ Yi.out _;(with_reducible repeat (first|refine Q4 ?_ _|refine Q7 ?_|refine Q2 ?_ _));refine Qr ?_ Yi.out _;(with_reducible repeat (first|refine Q4 ?_ _|refine Q7 ?_|refine Q2 ?_ _));refine Qr ?_ Yi.out _;(with_reducible repeat (first|refine Q4 ?_ _|refine Q7 ?_|refine Q2 ?_ _));refine Qr ?_ Yi.out _;(with_reducible repeat (first|refine Q4 ?_ _|refine Q7 ?_|refine Q2 ?_ _));refine Qr ?_ Yi.out _;(with_reducible repeat (first|refine Q4 ?_ _|refine Q7 ?_|refine Q2 ?_ _));exact YH.out⟩;have n4_:Q0 (((((((w50.setCell ⟨QS,0,none⟩ (.int .i64 ON)).setCell ⟨QS,1,none⟩ (.int .i64 t173)).setCell ⟨QS,2,none⟩ (.int .i64 UQ)).setCell ⟨QS,3,none⟩ (.int .i64 t175)).setCell ⟨QS,4,none⟩ (.int .i64 WU)).setCell ⟨QS,5,none⟩ (.int .i64 XK)).heap[QS]? = some (.cells #[.int .i64 ON,.int .i64 t173,.int .i64 UQ,.int .i64 t175,.int .i64 WU,.int .i64 XK] 115 (0,0))):=⟨by (with_reducible repeat (first|refine Q4 ?_ _|refine Q7 ?_|refine Q2 ?_ _));refine QI (cs:=#[.int .i64 ON,.int .i64 t173,.int .i64 UQ,.int .i64 t175,.int .i64 WU,.int .i64 0]) ?_ 5 _ rfl;(with_reducible repeat (first|refine Q4 ?_ _|refine Q7 ?_|refine Q2 ?_ _));refine QI (cs:=#[.int .i64 ON,.int .i64 t173,.int .i64 UQ,.int .i64 t175,.int .i64 0,.int .i64 0]) ?_ 4 _ rfl;(with_reducible repeat (first|refine Q4 ?_ _|refine Q7 ?_|refine Q2 ?_ _));refine QI (cs:=#[.int .i64 ON,.int .i64 t173,.int .i64 UQ,.int .i64 0,.int .i64 0,.int .i64 0]) ?_ 3 _ rfl;(with_reducible repeat (first|refine Q4 ?_ _|refine Q7 ?_|refine Q2 ?_ _));refine QI (cs:=#[.int .i64 ON,.int .i64 t173,.int .i64 0,.int .i64 0,.int .i64 0,.int .i64 0]) ?_ 2 _ rfl;(with_reducible repeat (first|refine Q4 ?_ _|refine Q7 ?_|refine Q2 ?_ _));refine QI (cs:=#[.int .i64 ON,.int .i64 0,.int .i64 0,.int .i64 0,.int .i64 0,.int .i64 0]) ?_ 1 _ rfl;(with_reducible repeat (first|refine Q4 ?_ _|refine Q7 ?_|refine Q2 ?_ _));refine QI (cs:=#[.int .i64 0,.int .i64 0,.int .i64 0,.int .i64 0,.int .i64 0,.int .i64 0]) ?_ 0 _ rfl;(with_reducible repeat (first|refine Q4 ?_ _|refine Q7 ?_|refine Q2 ?_ _));exact Jd.out⟩;have n5_:Q0 (Below w.heap.size w ((((((w50.setCell ⟨QS,0,none⟩ (.int .i64 ON)).setCell ⟨QS,1,none⟩ (.int .i64 t173)).setCell ⟨QS,2,none⟩ (.int .i64 UQ)).setCell ⟨QS,3,none⟩ (.int .i64 t175)).setCell ⟨QS,4,none⟩ (.int .i64 WU)).setCell ⟨QS,5,none⟩ (.int .i64 XK))):=⟨by repeat (first|(with_reducible first|exact HB.out|apply Q3|apply Q1|apply Q6|refine Q5 ?_ Ju.out|refine Q5 ?_ JF.out|refine Q5 ?_ UH.out|refine Q5 ?_ qaQ.out)|exact HB.out)⟩
               (try clear HO_13)
               (try clear YZ)
               (try clear Yd)
               (try clear YH)
               (try clear Jd)
               (try clear HB)
               generalize ((((((w50.setCell ⟨QS,0,none⟩ (.int .i64 ON)).setCell ⟨QS,1,none⟩ (.int .i64 t173)).setCell ⟨QS,2,none⟩ (.int .i64 UQ)).setCell ⟨QS,3,none⟩ (.int .i64 t175)).setCell ⟨QS,4,none⟩ (.int .i64 WU)).setCell ⟨QS,5,none⟩ (.int .i64 XK))=w57 at n0_ n1_ n2_ n3_ n4_ n5_ ⊢
               have HO_13:=n0_;have YZ:=n1_;have Yd:=n2_;have YH:=n3_;have Jd:=n4_;have HB:=n5_;clear n0_ n1_ n2_ n3_ n4_ n5_;have n0_:=Q0.mk (Kd.R_drew HO_13.out);have n1_:=Q0.mk (Q7 YZ.out);have n2_:=Q0.mk (Q7 Yd.out);have n3_:=Q0.mk (Q7 YH.out);have n4_:=Q0.mk (Q7 Jd.out);have n5_:=Q0.mk (Q6 HB.out);clear HO_13 YZ Yd YH Jd HB;have HO_13:=n0_;have YZ:=n1_;have Yd:=n2_;have YH:=n3_;have Jd:=n4_;have HB:=n5_;clear n0_ n1_ n2_ n3_ n4_ n5_;refine qaJ (n:=7) (S:=fun w'=>w'.cell? ⟨QS,0,none⟩=some (.int .i64 ON)∧w'.cell? ⟨QS,1,none⟩=some (.int .i64 t173)∧w'.cell? ⟨QS,2,none⟩=some (.int .i64 UQ)∧w'.cell? ⟨QS,3,none⟩=some (.int .i64 t175)∧w'.cell? ⟨QS,4,none⟩=some (.int .i64 WU)∧w'.cell? ⟨QS,5,none⟩=some (.int .i64 XK)) (ds:=[]) #[false,false,false,false,false,false,false] (by kernel_rfl) rfl rfl ⟨(Q9 Jd.out 0).trans rfl,(Q9 Jd.out 1).trans rfl,(Q9 Jd.out 2).trans rfl,(Q9 Jd.out 3).trans rfl,(Q9 Jd.out 4).trans rfl,(Q9 Jd.out 5).trans rfl⟩ (fun hHeld => ?_)
               generalize w57.drew=w58 at HO_13 YZ Yd YH Jd HB hHeld ⊢
               refine Yu (i:=0) (N:=some 78) (v:=?_) (a':=?_) #[true,false,false,false,false,false,false] rfl rfl (by kernel_rfl) (fun _ _ _ h=>h) (Or.inl ⟨by rfl,?_⟩) ?_ ?_
               rotate_left
               ·
                intro w'
                go_simp
                with_reducible rfl
               rotate_left
               ·
                simp only [Act.put,List.setIfInBounds_toArray,List.set_cons_zero,List.set_cons_succ,QL,QO]
                rfl
               refine Yu (i:=1) (N:=some 79) (v:=?_) (a':=?_) #[true,true,false,false,false,false,false] rfl rfl (by kernel_rfl) (fun _ _ _ h=>h) (Or.inl ⟨by rfl,?_⟩) ?_ ?_
               rotate_left
               ·
                intro w'
                go_simp
                with_reducible rfl
               rotate_left
               ·
                simp only [Act.put,List.setIfInBounds_toArray,List.set_cons_zero,List.set_cons_succ,QL,QO]
                rfl
               refine Gp (i:=4) (N:=some 82) (v:=?_) (a':=?_) #[true,true,false,false,true,false,false] rfl rfl (by kernel_rfl) (fun _ _ _ h=>h) (Or.inl ⟨by rfl,?_⟩) hHeld ?_ ?_
               rotate_left
               ·
                rintro w' ⟨s0,s1,s2,s3,s4,s5⟩
                go_simp
                with_reducible rfl
               rotate_left
               ·
                simp only [Act.put,List.setIfInBounds_toArray,List.set_cons_zero,List.set_cons_succ,QL,QO]
                rfl
               refine one_ (i:=2) (N:=some 80) #[true,true,true,false,true,false,false] rfl rfl (by kernel_rfl) (by decide) (fun K hK => ?_);refine qmD (w1:=?_) (v:=?_) (by rfl) rfl ?_ ?_
               rotate_left 2
               ·
                go_simp
                constructor
                ·
                 rfl
                rfl
               refine hK.out _ _ ⟨(Q9 (Q2 Jd.out _) 0).trans rfl,(Q9 (Q2 Jd.out _) 1).trans rfl,(Q9 (Q2 Jd.out _) 2).trans rfl,(Q9 (Q2 Jd.out _) 3).trans rfl,(Q9 (Q2 Jd.out _) 4).trans rfl,(Q9 (Q2 Jd.out _) 5).trans rfl⟩ (fun hHeld => ?_);clear hK K;refine KL (a':=?_) ?_ ?_
               rotate_left
               ·
                show Act.put _ (some 80) _=_
                simp only [Act.put,List.setIfInBounds_toArray,List.set_cons_zero,List.set_cons_succ,QL,QO]
                rfl
               refine one_ (i:=3) (N:=some 81) #[true,true,true,true,true,false,false] rfl rfl (by kernel_rfl) (by decide) (fun K hK => ?_);refine Kd.R_append_step (Kd.int .i64) (w0:=w) w.heap.size (by rfl) (.tmp 78) (.tmp 80) 37 3 (.int .i64 0) 8 rfl Try.underlying37 qdZ rfl (by decide) (by omega) u13 KM t171 [.int .i64 t171] (fun k_=>(w.heap.size≤k_)) (fun _=>False) rfl rfl ?aP (fun _ hk=>hk.elim) ?aF ?aO ?aB ?aS ?aL ?_
               (case aP=>exact rfl)
               (case aB=>exact (by repeat (first|(with_reducible first|exact HB.out|apply Q3|apply Q1|apply Q6|refine Q5 ?_ Ju.out|refine Q5 ?_ JF.out|refine Q5 ?_ UH.out|refine Q5 ?_ qaQ.out)|exact HB.out)))
               (case aF=>exact (fun k_ hk=>(Nat.le_trans (Qh (by repeat (first|(with_reducible first|exact HB.out|apply Q3|apply Q1|apply Q6|refine Q5 ?_ Ju.out|refine Q5 ?_ JF.out|refine Q5 ?_ UH.out|refine Q5 ?_ qaQ.out)|exact HB.out))) hk)))
               (case aO=>exact (by (with_reducible repeat (first|apply Kd.R_alloc|apply Kd.R_drewN|apply Kd.R_drew));exact HO_13.out))
               (case aS=>exact (Qh (by repeat (first|(with_reducible first|exact HB.out|apply Q3|apply Q1|apply Q6|refine Q5 ?_ Ju.out|refine Q5 ?_ JF.out|refine Q5 ?_ UH.out|refine Q5 ?_ qaQ.out)|exact HB.out))))
               (case aL=>have:=qx7.out;omega)
               intro qLy w59 ho hb hg hat;rw [← qx8.out] at ho;have n0_:=Q0.mk (GK (g:=Jx) (by (with_reducible repeat (first|refine Q4 ?_ _|refine Q7 ?_|refine Q2 ?_ _));exact YZ.out) hg (Kd.R_ne HO_13.out YZ.out (by decide)));have n1_:=Q0.mk (GK (g:=Z4) (by (with_reducible repeat (first|refine Q4 ?_ _|refine Q7 ?_|refine Q2 ?_ _));exact Yd.out) hg (Kd.R_ne HO_13.out Yd.out (by decide)));have n2_:=Q0.mk (GK (g:=YD) (by (with_reducible repeat (first|refine Q4 ?_ _|refine Q7 ?_|refine Q2 ?_ _));exact YH.out) hg (Kd.R_ne HO_13.out YH.out (by decide)));have n3_:=Q0.mk (GK (g:=QS) (by (with_reducible repeat (first|refine Q4 ?_ _|refine Q7 ?_|refine Q2 ?_ _));exact Jd.out) hg (Kd.R_ne HO_13.out Jd.out (by decide)));have n4_:=Q0.mk (hb);have n5_:=Q0.mk (ho);clear YZ Yd YH Jd HB HO_13;have YZ:=n0_;have Yd:=n1_;have YH:=n2_;have Jd:=n3_;have HB:=n4_;have qxW:=n5_;clear n0_ n1_ n2_ n3_ n4_ n5_ ho hb hg hat;refine hK.out _ _ ⟨(Q9 Jd.out 0).trans rfl,(Q9 Jd.out 1).trans rfl,(Q9 Jd.out 2).trans rfl,(Q9 Jd.out 3).trans rfl,(Q9 Jd.out 4).trans rfl,(Q9 Jd.out 5).trans rfl⟩ (fun hHeld => ?_);clear hK K;refine KL (a':=?_) ?_ ?_
               rotate_left
               ·
                show Act.put _ (some 81) _=_
                simp only [Act.put,List.setIfInBounds_toArray,List.set_cons_zero,List.set_cons_succ,QL,QO]
                rfl
               refine Yu (i:=5) (N:=some 13) (v:=?_) (a':=?_) #[true,true,true,true,true,true,false] rfl rfl (by kernel_rfl) (fun _ _ _ h=>h) (Or.inl ⟨by rfl,?_⟩) ?_ ?_
               rotate_left
               ·
                intro w'
                go_simp
                with_reducible rfl
               rotate_left
               ·
                simp only [Act.put,List.setIfInBounds_toArray,List.set_cons_zero,List.set_cons_succ,QL,QO]
                rfl
               refine one_ (i:=6) (N:=none) #[true,true,true,true,true,true,true] rfl rfl (by kernel_rfl) (by decide) (fun K hK => ?_);have qLi:w59.cell? ⟨YD,0,none⟩=some (.int .i64 ZP):=(Q9 YH.out 0).trans rfl;have qJg:=Q8 YH.out 0;have qGi:=Jo.out;have qGj:=Jp.out;have qGk:=Yo.out;have qFw:=Ua.out;have qFx:=Ub.out;have qFy:=Yi.out;have qLj:w59.cell? ⟨YD,1,none⟩=some (.int .i64 ZE):=(Q9 YH.out 1).trans rfl;have qJh:=Q8 YH.out 1;have qGl:=Jo.out;have qGm:=Jp.out;have qGn:=Yo.out;have qFz:=Ua.out;have qFA:=Ub.out;have qFB:=Yi.out;have qLk:w59.cell? ⟨YD,2,none⟩=some (.int .i64 Zz):=(Q9 YH.out 2).trans rfl;have qJi:=Q8 YH.out 2;have qGo:=Jo.out;have qGp:=Jp.out;have qGq:=Yo.out;have qFC:=Ua.out;have qFD:=Ub.out;have qFE:=Yi.out;have qLl:w59.cell? ⟨YD,3,none⟩=some (.int .i64 Zu):=(Q9 YH.out 3).trans rfl;have qJj:=Q8 YH.out 3;have qGr:=Jo.out;have qGs:=Jp.out;have qGt:=Yo.out;have qFF:=Ua.out;have qFG:=Ub.out;have qFH:=Yi.out;have qLm:w59.cell? ⟨YD,4,none⟩=some (.int .i64 Zo):=(Q9 YH.out 4).trans rfl;have qJk:=Q8 YH.out 4;have qGu:=Jo.out;have qGv:=Jp.out;have qGw:=Yo.out;have qFI:=Ua.out;have qFJ:=Ub.out;have qFK:=Yi.out;have qLn:w59.cell? ⟨YD,5,none⟩=some (.int .i64 Zh):=(Q9 YH.out 5).trans rfl;have qJl:=Q8 YH.out 5;have qGx:=Jo.out;have qGy:=Jp.out;have qGz:=Yo.out;have qFL:=Ua.out;have qFM:=Ub.out;have qFN:=Yi.out;refine qrx (w1:=?_) (by rfl) rfl ?_ ?_
               rotate_left
               ·
                go_simp
                rfl
               refine hK.out _ _ ⟨((Qp (p:=⟨YD,_,none⟩) Yo.out _).trans (((Qp (p:=⟨YD,_,none⟩) Yo.out _).trans (((Qp (p:=⟨YD,_,none⟩) Yo.out _).trans (((Qp (p:=⟨YD,_,none⟩) Yo.out _).trans (((Qp (p:=⟨YD,_,none⟩) Yo.out _).trans (((Qp (p:=⟨YD,_,none⟩) Yo.out _).trans (hHeld.1)))))))))))),((Qp (p:=⟨YD,_,none⟩) Yo.out _).trans (((Qp (p:=⟨YD,_,none⟩) Yo.out _).trans (((Qp (p:=⟨YD,_,none⟩) Yo.out _).trans (((Qp (p:=⟨YD,_,none⟩) Yo.out _).trans (((Qp (p:=⟨YD,_,none⟩) Yo.out _).trans (((Qp (p:=⟨YD,_,none⟩) Yo.out _).trans (hHeld.2.1)))))))))))),((Qp (p:=⟨YD,_,none⟩) Yo.out _).trans (((Qp (p:=⟨YD,_,none⟩) Yo.out _).trans (((Qp (p:=⟨YD,_,none⟩) Yo.out _).trans (((Qp (p:=⟨YD,_,none⟩) Yo.out _).trans (((Qp (p:=⟨YD,_,none⟩) Yo.out _).trans (((Qp (p:=⟨YD,_,none⟩) Yo.out _).trans (hHeld.2.2.1)))))))))))),((Qp (p:=⟨YD,_,none⟩) Yo.out _).trans (((Qp (p:=⟨YD,_,none⟩) Yo.out _).trans (((Qp (p:=⟨YD,_,none⟩) Yo.out _).trans (((Qp (p:=⟨YD,_,none⟩) Yo.out _).trans (((Qp (p:=⟨YD,_,none⟩) Yo.out _).trans (((Qp (p:=⟨YD,_,none⟩) Yo.out _).trans (hHeld.2.2.2.1)))))))))))),((Qp (p:=⟨YD,_,none⟩) Yo.out _).trans (((Qp (p:=⟨YD,_,none⟩) Yo.out _).trans (((Qp (p:=⟨YD,_,none⟩) Yo.out _).trans (((Qp (p:=⟨YD,_,none⟩) Yo.out _).trans (((Qp (p:=⟨YD,_,none⟩) Yo.out _).trans (((Qp (p:=⟨YD,_,none⟩) Yo.out _).trans (hHeld.2.2.2.2.1)))))))))))),((Qp (p:=⟨YD,_,none⟩) Yo.out _).trans (((Qp (p:=⟨YD,_,none⟩) Yo.out _).trans (((Qp (p:=⟨YD,_,none⟩) Yo.out _).trans (((Qp (p:=⟨YD,_,none⟩) Yo.out _).trans (((Qp (p:=⟨YD,_,none⟩) Yo.out _).trans (((Qp (p:=⟨YD,_,none⟩) Yo.out _).trans (hHeld.2.2.2.2.2))))))))))))⟩ (fun hHeld => ?_);clear hK K;refine qcU (by kernel_rfl) ?_
               try go_wp2
               go_roundg k4
               case measure=>have:=HJ3.out;have:=HK2.out;have:=Xp.out;have:=HK4.out;omega
               case rel=>exact ⟨(qA7),(wrap64 (JL+1)),(ON),(t173),(UQ),(t175),(WU),(XK),(by first|rfl|(simp;done)|(simp [*];done)),H',⟨by have:=HJ3.out;have:=HK2.out;have:=Xp.out;have:=HK4.out;omega⟩,⟨by (with_reducible repeat (first|apply Kd.R_alloc|apply Kd.R_drewN|apply Kd.R_drew));exact Kd.R_mono (Kd.R_far (p:=⟨YD,5,none⟩) (Kd.R_far (p:=⟨YD,4,none⟩) (Kd.R_far (p:=⟨YD,3,none⟩) (Kd.R_far (p:=⟨YD,2,none⟩) (Kd.R_far (p:=⟨YD,1,none⟩) (Kd.R_far (p:=⟨YD,0,none⟩) (Kd.R_types qxW.out YH.out (by decide)) (fun _ hk=>hk.2) (.int .i64 ON)) (fun _ hk=>hk.2) (.int .i64 t173)) (fun _ hk=>hk.2) (.int .i64 UQ)) (fun _ hk=>hk.2) (.int .i64 t175)) (fun _ hk=>hk.2) (.int .i64 WU)) (fun _ hk=>hk.2) (.int .i64 XK)) (fun _ hk=>hk.1)⟩,⟨by (with_reducible repeat (first|refine Q4 ?_ _|refine Q7 ?_|refine Q2 ?_ _));refine Qr ?_ Jo.out _;(with_reducible repeat (first|refine Q4 ?_ _|refine Q7 ?_|refine Q2 ?_ _));refine Qr ?_ Jo.out _;(with_reducible repeat (first|refine Q4 ?_ _|refine Q7 ?_|refine Q2 ?_ _));refine Qr ?_ Jo.out _;(with_reducible repeat (first|refine Q4 ?_ _|refine Q7 ?_|refine Q2 ?_ _));refine Qr ?_ Jo.out _;(with_reducible repeat (first|refine Q4 ?_ _|refine Q7 ?_|refine Q2 ?_ _));refine Qr ?_ Jo.out _;(with_reducible repeat (first|refine Q4 ?_ _|refine Q7 ?_|refine Q2 ?_ _));refine Qr ?_ Jo.out _;(with_reducible repeat (first|refine Q4 ?_ _|refine Q7 ?_|refine Q2 ?_ _));exact YZ.out⟩,⟨by (with_reducible repeat (first|refine Q4 ?_ _|refine Q7 ?_|refine Q2 ?_ _));refine Qr ?_ Jp.out _;(with_reducible repeat (first|refine Q4 ?_ _|refine Q7 ?_|refine Q2 ?_ _));refine Qr ?_ Jp.out _;(with_reducible repeat (first|refine Q4 ?_ _|refine Q7 ?_|refine Q2 ?_ _));refine Qr ?_ Jp.out _;(with_reducible repeat (first|refine Q4 ?_ _|refine Q7 ?_|refine Q2 ?_ _));refine Qr ?_ Jp.out _;(with_reducible repeat (first|refine Q4 ?_ _|refine Q7 ?_|refine Q2 ?_ _));refine Qr ?_ Jp.out _;(with_reducible repeat (first|refine Q4 ?_ _|refine Q7 ?_|refine Q2 ?_ _));refine Qr ?_ Jp.out _;(with_reducible repeat (first|refine Q4 ?_ _|refine Q7 ?_|refine Q2 ?_ _));exact Yd.out⟩,⟨by (with_reducible repeat (first|refine Q4 ?_ _|refine Q7 ?_|refine Q2 ?_ _));refine QI (cs:=#[.int .i64 ON,.int .i64 t173,.int .i64 UQ,.int .i64 t175,.int .i64 WU,.int .i64 Zh]) ?_ 5 _ rfl;(with_reducible repeat (first|refine Q4 ?_ _|refine Q7 ?_|refine Q2 ?_ _));refine QI (cs:=#[.int .i64 ON,.int .i64 t173,.int .i64 UQ,.int .i64 t175,.int .i64 Zo,.int .i64 Zh]) ?_ 4 _ rfl;(with_reducible repeat (first|refine Q4 ?_ _|refine Q7 ?_|refine Q2 ?_ _));refine QI (cs:=#[.int .i64 ON,.int .i64 t173,.int .i64 UQ,.int .i64 Zu,.int .i64 Zo,.int .i64 Zh]) ?_ 3 _ rfl;(with_reducible repeat (first|refine Q4 ?_ _|refine Q7 ?_|refine Q2 ?_ _));refine QI (cs:=#[.int .i64 ON,.int .i64 t173,.int .i64 Zz,.int .i64 Zu,.int .i64 Zo,.int .i64 Zh]) ?_ 2 _ rfl;(with_reducible repeat (first|refine Q4 ?_ _|refine Q7 ?_|refine Q2 ?_ _));refine QI (cs:=#[.int .i64 ON,.int .i64 ZE,.int .i64 Zz,.int .i64 Zu,.int .i64 Zo,.int .i64 Zh]) ?_ 1 _ rfl;(with_reducible repeat (first|refine Q4 ?_ _|refine Q7 ?_|refine Q2 ?_ _));refine QI (cs:=#[.int .i64 ZP,.int .i64 ZE,.int .i64 Zz,.int .i64 Zu,.int .i64 Zo,.int .i64 Zh]) ?_ 0 _ rfl;(with_reducible repeat (first|refine Q4 ?_ _|refine Q7 ?_|refine Q2 ?_ _));exact YH.out⟩,⟨by repeat (first|(with_reducible first|exact HB.out|apply Q3|apply Q1|apply Q6|refine Q5 ?_ Ju.out|refine Q5 ?_ JF.out|refine Q5 ?_ UH.out|refine Q5 ?_ qaQ.out)|exact HB.out)⟩⟩
              rw [if_neg c46] at H
              exact absurd H (by simp)
             rw [if_neg c44] at H
             exact absurd H (by simp)
            rw [if_neg c43] at H
            exact absurd H (by simp)
           rw [if_neg c42] at H
           exact absurd H (by simp)
          rw [if_neg c41] at H;have c41b0:decide (JL<(l1.length:Int))=false:=decide_eq_false c41;clear c41
          by_cases c66:0≤(KM.length:Int)
          ·
           rw [if_pos c66] at H;have c66b0:=eq_true c66;have c66b1:decide (0≤(KM.length:Int))=true:=decide_eq_true c66;clear c66
           by_cases c67:(KM.length:Int)≤(KM.length:Int)
           ·
            rw [if_pos c67] at H;have c67b0:=eq_true c67;have c67b1:decide ((KM.length:Int)≤(KM.length:Int))=true:=decide_eq_true c67;clear c67;obtain ⟨qxk,qkb⟩:∃ y_:List Int,y_=(KM.take ((KM.length:Int):Int).toNat):=⟨_,rfl⟩
            replace H:(some (qxk,0))=some (r1,r2):=by first|(rw [qkb];with_reducible exact H)|(have H2_:=(Option.bind_some _ _).symm.trans H;rw [qkb];with_reducible exact H2_)|(have H2_:=(Option.bind_some _ _).symm.trans H;with_reducible exact H2_)|with_reducible exact H|(rw [qkb];exact H)|exact H
            have quK:=Q0.mk qkb;clear qkb;simp only [Option.some.injEq,Prod.mk.injEq] at H;obtain ⟨rfl,rfl⟩:=H;obtain ⟨qGK,qGX,qHu⟩:=Kd.R_slice HO_13.out;subst qHu;have q69:((KM.length:Int):Int)≤((KM.length:Int):Int):=of_decide_eq_true (by first|(with_reducible assumption)|assumption);obtain ⟨qLv,qvg,_,qAV,_⟩:=info_parts qdZ;have qHA:=XG (P:=Try.prog) 37 3 Try.underlying37 qvg qGK KM.length qGX (Kd.R_reads' HO_13.out).2.1;have qwG:=Kd.R_take (m:=((KM.length:Int):Int).toNat) HO_13.out (by omega);have qAZ:qxk.length=((KM.length:Int):Int).toNat:=(by rw [quK.out,List.length_take];omega);rw [← quK.out] at qwG
            have qA0:KM.length=qxk.length:=by rw [qAZ];omega
            have qGQ:=Q0.mk qA0;clear qAZ qA0 qvg qAV HO_13;have qxX:=Q0.mk qwG;clear qwG;replace q69:=eq_true q69
            go_wp2
            go_ret2
            exact ⟨_,by first|rfl|(simp [Qz,QA]<;>rfl)|(simp [*,Qz,QA]<;>rfl),qp1 (by (with_reducible repeat (first|apply Kd.R_alloc|apply Kd.R_drewN|apply Kd.R_drew));exact qxX.out) _ qGQ.out,by repeat (first|(with_reducible first|exact HB.out|apply Q3|apply Q1|apply Q6|refine Q5 ?_ Ju.out|refine Q5 ?_ JF.out|refine Q5 ?_ UH.out)|exact HB.out)⟩
           rw [if_neg c67] at H
           exact absurd H (by simp)
          rw [if_neg c66] at H
          exact absurd H (by simp)
       replace c32:=Bool.eq_false_iff.mpr c32;subst c32
       have H1:(some (([]:List Int),92))=some (r1,r2):=by rw [if_neg (show ¬ (false=true) by decide)] at H;exact H
       clear H;have H:=H1;clear H1;simp only [Option.some.injEq,Prod.mk.injEq] at H;obtain ⟨rfl,rfl⟩:=H
       go_wp2
       go_ret2
       exact ⟨_,by first|rfl|(simp [Qz,QA]<;>rfl)|(simp [*,Qz,QA]<;>rfl),(by first|exact Kd.V_nil _ _ _ _ _|(show Kd.V _ _ _ _ _ (.slice none 0 0) [];exact Kd.V_nil _ _ _ _ _)),by repeat (first|(with_reducible first|exact HB.out|apply Q3|apply Q1|apply Q6|refine Q5 ?_ Ju.out|refine Q5 ?_ JF.out)|exact HB.out)⟩
end
section
attribute [local go_sem] Yv Yx YJ YK Yl Ym Yw Yy
def Gu.f (a0:Int) (a1:Int):Option (Int):=(QX.f a0 a1).bind fun qo9=>(if a1=0 then (none) else (some (wrap64 (Int.tdiv (wrap64 (a0-qo9)) a1))))
set_option maxHeartbeats 8000000 in
set_option maxRecDepth 100000 in
theorem Gu.calls (a0:Int) (a1:Int) (r:Int) (w:World) (h:Gu.f a0 a1=some r) :
  Calls Try.prog 47 #[.int .i64 a0,.int .i64 a1] w fun e w'=>e = .returned (.int .i64 r)∧YI w w':=by
 have H:((QX.f a0 a1).bind fun qo9=>(if a1=0 then (none) else (some (wrap64 (Int.tdiv (wrap64 (a0-qo9)) a1)))))=some r:=h
 clear h
 replace H:=Option.bind_eq_some_iff.mp H
 obtain ⟨qo9,A30,H⟩:=H
 replace H:(if a1=0 then (none) else (some (wrap64 (Int.tdiv (wrap64 (a0-qo9)) a1))))=some r:=H
 have A3:=Q0.mk A30
 clear A30
 by_cases c4:a1=0
 ·
  rw [if_pos c4] at H
  exact absurd H (by simp)
 rw [if_neg c4] at H
 have c4b0:(a1==0)=false:=beq_eq_false_iff_ne.mpr c4
 have c4b1:(a1 != 0)=true:=bne_iff_ne.mpr c4
 obtain rfl:=Option.some.inj H
 go_enter Try.func47,Try.ntmps47
 go_wp2_with (first|((with_reducible refine QG (f:=36) rfl ?_);refine YF (some 8) rfl rfl Try.func36 (by kernel_rfl) rfl #[.int .i64 a0,.int .i64 a1] rfl (by (try simp only [List.map_toArray,List.map_cons,List.map_nil]);first|done|rfl|(simp only [List.length_drop,List.length_take];rfl)) ?_;(with_reducible refine (QX.calls a0 a1 qo9 _ A3.out).mono ?_);rintro e w' ⟨rfl,⟨nd,rfl⟩⟩;refine ⟨_,rfl,?_⟩))
 go_ret
 exact ⟨by first|rfl|(simp;done)|(simp [*];done),by repeat (first|exact YI.refl _|apply YI.step)⟩
end
section
attribute [local go_sem] Yv Yx YJ YK Yl Ym Yw Yy
def GN.f (a0:Int) (a1:Int):Option (Int):=(Gu.f (wrap64 (-a0)) a1).bind fun qpa=>(some (wrap64 (-qpa)))
set_option maxHeartbeats 8000000 in
set_option maxRecDepth 100000 in
theorem GN.calls (a0:Int) (a1:Int) (r:Int) (w:World) (h:GN.f a0 a1=some r) :
  Calls Try.prog 48 #[.int .i64 a0,.int .i64 a1] w fun e w'=>e = .returned (.int .i64 r)∧YI w w':=by
 have H:((Gu.f (wrap64 (-a0)) a1).bind fun qpa=>(some (wrap64 (-qpa))))=some r:=h
 clear h
 replace H:=Option.bind_eq_some_iff.mp H
 obtain ⟨qpa,A30,H⟩:=H
 replace H:(some (wrap64 (-qpa)))=some r:=H
 have A3:=Q0.mk A30
 clear A30
 obtain rfl:=Option.some.inj H
 go_enter Try.func48,Try.ntmps48
 go_wp2_with (first|((with_reducible refine QG (f:=47) rfl ?_);refine YF (some 8) rfl rfl Try.func47 (by kernel_rfl) rfl #[.int .i64 (wrap64 (-a0)),.int .i64 a1] rfl (by (try simp only [List.map_toArray,List.map_cons,List.map_nil]);first|done|rfl|(simp only [List.length_drop,List.length_take];rfl)) ?_;(with_reducible refine (Gu.calls (wrap64 (-a0)) a1 qpa _ A3.out).mono ?_);rintro e w' ⟨rfl,⟨nd,rfl⟩⟩;refine ⟨_,rfl,?_⟩))
 go_ret
 exact ⟨by first|rfl|(simp;done)|(simp [*];done),by repeat (first|exact YI.refl _|apply YI.step)⟩
end
section
attribute [local go_sem] Yv Yx YJ YK Yl Ym Yw Yy
def Gv.f (l0:List Int) (a1:Int):Option (Int):=if (l0.length:Int)=0 then (some 0) else ((QX.f a1 (l0.length:Int)).bind fun qaK=>(if 0≤qaK then (if qaK<(l0.length:Int) then (some (rd l0 qaK)) else (none)) else (none)))
set_option maxHeartbeats 8000000 in
set_option maxRecDepth 100000 in
theorem Gv.calls (A0:Option Addr) (c0:Nat) (l0:List Int) (a1:Int) (r:Int) (w:World) (hr0:Kd.C (Kd.int .i64) w A0 l0.length l0) (hc0:l0.length≤c0) (h:Gv.f l0 a1=some r) :
  Calls Try.prog 42 #[.slice A0 l0.length c0,.int .i64 a1] w fun e w'=>e = .returned (.int .i64 r)∧YI w w':=by
 have HR0:=Q0.mk hr0
 have HC0:=Q0.mk hc0
 clear hr0 hc0
 have H:(if (l0.length:Int)=0 then (some 0) else ((QX.f a1 (l0.length:Int)).bind fun qaK=>(if 0≤qaK then (if qaK<(l0.length:Int) then (some (rd l0 qaK)) else (none)) else (none))))=some r:=h
 clear h
 by_cases c3:(l0.length:Int)=0
 ·
  rw [if_pos c3] at H
  have c3b0:((l0.length:Int)==0)=true:=beq_iff_eq.mpr c3
  have c3b1:((l0.length:Int) != 0)=false:=bne_eq_false_iff_eq.mpr c3
  clear c3
  obtain rfl:=Option.some.inj H
  go_enter Try.func42,Try.ntmps42
  go_wp2
  go_ret
  exact ⟨by first|rfl|(simp;done)|(simp [*];done),by repeat (first|exact YI.refl _|apply YI.step)⟩
 rw [if_neg c3] at H
 have c3b0:((l0.length:Int)==0)=false:=beq_eq_false_iff_ne.mpr c3
 have c3b1:((l0.length:Int) != 0)=true:=bne_iff_ne.mpr c3
 have c3b2:¬ (l0=[]):=fun h_=>c3 (by rw [h_];rfl)
 replace H:=Option.bind_eq_some_iff.mp H
 obtain ⟨qaK,A40,H⟩:=H
 replace H:(if 0≤qaK then (if qaK<(l0.length:Int) then (some (rd l0 qaK)) else (none)) else (none))=some r:=H
 have A4:=Q0.mk A40
 clear A40
 by_cases c5:0≤qaK
 ·
  rw [if_pos c5] at H
  have c5b0:decide (0≤qaK)=true:=decide_eq_true c5
  clear c5
  by_cases c6:qaK<(l0.length:Int)
  ·
   rw [if_pos c6] at H
   have c6b0:decide (qaK<(l0.length:Int))=true:=decide_eq_true c6
   clear c6
   obtain rfl:=Option.some.inj H
   go_enter Try.func42,Try.ntmps42
   go_wp2_with (first|((with_reducible refine QG (f:=36) rfl ?_);refine YF (some 12) rfl rfl Try.func36 (by kernel_rfl) rfl #[.int .i64 a1,.int .i64 (l0.length:Int)] rfl (by (try simp only [List.map_toArray,List.map_cons,List.map_nil]);first|done|rfl|(simp only [List.length_drop,List.length_take];rfl)) ?_;(with_reducible refine (QX.calls a1 (l0.length:Int) qaK _ A4.out).mono ?_);rintro e w' ⟨rfl,⟨nd,rfl⟩⟩;refine ⟨_,rfl,?_⟩;have qwP:0≤(qaK:Int):=of_decide_eq_true (by first|(with_reducible assumption)|assumption);have qw3:qaK<(l0.length:Int):=of_decide_eq_true (by first|(with_reducible assumption)|assumption);obtain ⟨qIR,qG5,qGB⟩:=Kd.at_int HR0.out qaK qwP qw3;cases qG5;replace qwP:=eq_true qwP;replace qw3:=eq_true qw3))
   go_ret
   exact ⟨by first|rfl|(simp;done)|(simp [*];done),by repeat (first|exact YI.refl _|apply YI.step)⟩
  rw [if_neg c6] at H
  exact absurd H (by simp)
 rw [if_neg c5] at H
 exact absurd H (by simp)
end
section
attribute [local go_sem] Yv Yx YJ YK Yl Ym Yw Yy
def Qt.l0:Nat→Int→Int→Int→List Int→List Int→Int→List (S39)→List Int→List (List (List Int))→Option (List Int × Int)
 | 0,_,_,_,_,_,_,_,_,_=>none
 | k+1,x1,x2,x3,x4,x12,x13,qaN,qjz,qeh=>if 0≤x2 then (if x2<(qeh.length:Int) then (if 0≤x1 then (if x1<((Qs qeh x2).length:Int) then (if x13<((QC (Qs qeh x2) x1).length:Int) then (if x1<(qjz.length:Int) then ((GN.f (wrap64 (x3*(rd qjz x1))) 100).bind fun qjh=>((Gv.f x4 x13).bind fun qla=>((QX.f qla 20).bind fun qgN=>(if x12.length<17592186044416 then (Qt.l0 k x1 x2 x3 x4 (x12++[mx 0 (wrap64 (qjh-qgN))]) (wrap64 (x13+1)) qaN qjz qeh) else (none))))) else (none)) else (if x1<(qaN.length:Int) then ((Qx.f k ((Qe qaN x1).f0) ((Qe qaN x1).f1) ((Qe qaN x1).f2) ((Qe qaN x1).f3) ((Qe qaN x1).f4) x12 (QC (Qs qeh x2) x1)).bind fun qjY=>(some (qjY.1,qjY.2))) else (none))) else (none)) else (none)) else (none)) else (none)
def Qt.f (k:Nat) (Qa:List (S39)) (Qf:List Int) (Qb:List (List (List Int))) (a1:Int) (a2:Int) (a3:Int) (l4:List Int):Option (List Int × Int):=Qt.l0 k a1 a2 a3 l4 ([]:List Int) 0 Qa Qf Qb
def Qt.T6:Bool × List (List Nat × List Nat):=(true,[([],[]),([0],[0]),([],[]),([1,2],[1,2]),([3],[3]),([],[]),([],[]),([6],[6]),([],[]),([7,8],[7,8]),([9],[9]),([],[]),([10,11],[10,11]),([12],[12]),([4,5,13],[4,5,13]),([14],[14]),([14],[14]),([15,14,0,1,2,3,4,5,6,7,8,9,10,11,12,13,14,15,16],[15]),([16,17,0,1,2,3,4,5,6,7,8,9,10,11,12,13,14,15,16,17],[16])])
def Qt.B6:List Nat:=[0,1,0,7,15,0,0,64,0,448,960,0,4032,8128,16383,32767,32767,131071,262143]
theorem Qt.tab6:rtab .any (qgo Try.f52 6)=Qt.T6:=by kernel_rfl
theorem Qt.bits6:U4 Qt.T6.2 Qt.B6=true:=by kernel_rfl
set_option maxHeartbeats 8000000 in
set_option maxRecDepth 100000 in
theorem Qt.calls (k:Nat) (QD:Option Addr) (Qu:Nat) (Qa:List (S39)) (QB:Option Addr) (Qv:Nat) (Qf:List Int) (QK:Option Addr) (Qw:Nat) (Qb:List (List (List Int))) (a1:Int) (a2:Int) (a3:Int) (A4:Option Addr) (c4:Nat) (l4:List Int) (r1:List Int) (r2:Int) (w:World) (Gk:Kd.C k39 w QD Qa.length Qa) (Gy:Qa.length≤Qu) (Gl:Kd.C (Kd.int .i64) w QB Qf.length Qf) (Gz:Qf.length≤Qv) (Gm:Kd.C (Kd.slice 37 (Kd.slice 3 (Kd.int .i64))) w QK Qb.length Qb) (GA:Qb.length≤Qw) (hr4:Kd.C (Kd.int .i64) w A4 l4.length l4) (hc4:l4.length≤c4) (h:Qt.f k Qa Qf Qb a1 a2 a3 l4=some (r1,r2)) :
  Calls Try.prog 52 #[.agg #[.slice QD Qa.length Qu,.slice QB Qf.length Qv,.slice QK Qb.length Qw],.int .i64 a1,.int .i64 a2,.int .i64 a3,.slice A4 l4.length c4] w fun e w' => ∃ v0_:Value,e = .returned (.tuple #[v0_,.int .i64 r2])∧Kd.V (Kd.int .i64) 3 w' w.heap.size (fun k_=>(w.heap.size≤k_)) v0_ r1∧Below w.heap.size w w':=by
 have qoO:=Try.underlying47
 have qlQ:=Try.underlying39
 have YV:=Q0.mk Gk
 have ZA:=Q0.mk Gy
 clear Gk Gy
 have Zj:=Q0.mk Gl
 have ZB:=Q0.mk Gz
 clear Gl Gz
 have Z5:=Q0.mk Gm
 have ZC:=Q0.mk GA
 clear Gm GA
 have HR4:=Q0.mk hr4
 have HC4:=Q0.mk hc4
 clear hr4 hc4
 have HB:=Q0.mk (Below.refl w.heap.size w)
 have H:(Qt.l0 k a1 a2 a3 l4 ([]:List Int) 0 Qa Qf Qb)=some (r1,r2):=h
 clear h
 have H':=Q0.mk H
 clear H
 go_enter Try.func52,Try.ntmps52
 go_wp2_with (first|((with_reducible refine QZ (N:=5) rfl ?_);refine Yr ?hg (N:=5) ?hd (cs:=#[.slice QD Qa.length Qu,.slice QB Qf.length Qv,.slice QK Qb.length Qw]) (t:=47) ?hr ?_;(case hd=>rfl);(case hg=>rfl);(case hr=>first|(go_simp;done)|(go_simp;rfl));intro UV hg w6 hbox hb;have n0_:=Q0.mk (Qk (by repeat (first|(with_reducible first|exact HB.out|apply Q3|apply Q1|apply Q6)|exact HB.out)) hb);have n1_:=Q0.mk (hbox);have n2_:=Q0.mk ((by rw [hg];exact (Qh (by repeat (first|(with_reducible first|exact HB.out|apply Q3|apply Q1|apply Q6)|exact HB.out))):w.heap.size≤UV));have n3_:=n2_;clear HB;have HB:=n0_;have GE:=n1_;have qIJ:=n2_;have qb5:=n3_;clear n0_ n1_ n2_ n3_ hb hbox hg))
 go_loopg [12,13] k (fun kq v12 v13 w' => ∃ (UR:List Int) (WR:Int),v13 = .int .i64 WR∧Q0 (Qt.l0 kq a1 a2 a3 l4 UR WR Qa Qf Qb=some (r1,r2))∧Q0 (kq≤k)∧Q0 (Kd.R (Kd.int .i64) 3 w' w.heap.size (fun k_=>(w.heap.size≤k_)) v12 UR)∧Q0 (w'.heap[UV]? = some (.cells #[(.slice QD Qa.length Qu),(.slice QB Qf.length Qv),(.slice QK Qb.length Qw)] 47 (0,0)))∧Q0 (Below w.heap.size w w'))
 case atStart=>exact ⟨(([]:List Int)),(0),(by first|rfl|(simp;done)|(simp [*];done)),H',⟨Nat.le_refl _⟩,⟨by first|exact Kd.R_nil _ _ _ _ _|exact Kd.N_nil _ _ _ _ _|exact Kd.V_nil _ _ _ _ _|exact Kd.Q_nil _ _ _ _ _|exact Kd.S_nil _ _ _ _ _⟩,⟨by (with_reducible repeat (first|refine Q4 ?_ _|refine Q7 ?_|refine Q2 ?_ _));exact GE.out⟩,⟨by repeat (first|(with_reducible first|exact HB.out|apply Q3|apply Q1|apply Q6|refine Q5 ?_ qb5.out)|exact HB.out)⟩⟩
 case round =>
  clear H'
  try clear p2
  try clear c4
  try clear c5
  obtain ⟨UR,WR,rfl,HA,HK1,HO_12,GE,HB⟩:=hrel
  cases gk with
  | zero=>exact absurd HA.out (by simp [Qt.l0])
  | succ k1 =>
   have H:=HA.out
   clear HA
   simp only [Qt.l0] at H
   by_cases c7:0≤a2
   ·
    rw [if_pos c7] at H;have c7b0:decide (0≤a2)=true:=decide_eq_true c7;clear c7
    by_cases c8:a2<(Qb.length:Int)
    ·
     rw [if_pos c8] at H;have c8b0:decide (a2<(Qb.length:Int))=true:=decide_eq_true c8;clear c8
     by_cases c9:0≤a1
     ·
      rw [if_pos c9] at H;have c9b0:decide (0≤a1)=true:=decide_eq_true c9;clear c9
      by_cases c10:a1<((Qs Qb a2).length:Int)
      ·
       rw [if_pos c10] at H;have c10b0:decide (a1<((Qs Qb a2).length:Int))=true:=decide_eq_true c10;clear c10
       by_cases c11:WR<((QC (Qs Qb a2) a1).length:Int)
       ·
        rw [if_pos c11] at H;have c11b0:decide (WR<((QC (Qs Qb a2) a1).length:Int))=true:=decide_eq_true c11;clear c11
        by_cases c12:a1<(Qf.length:Int)
        ·
         rw [if_pos c12] at H;have c12b0:decide (a1<(Qf.length:Int))=true:=decide_eq_true c12;clear c12;replace H:=Option.bind_eq_some_iff.mp H;obtain ⟨qjh,qpn,H⟩:=H;replace H:((Gv.f l4 WR).bind fun qla=>((QX.f qla 20).bind fun qgN=>(if UR.length<17592186044416 then (Qt.l0 k1 a1 a2 a3 l4 (UR++[mx 0 (wrap64 (qjh-qgN))]) (wrap64 (WR+1)) Qa Qf Qb) else (none))))=some (r1,r2):=H;have A13:=Q0.mk qpn;clear qpn;replace H:=Option.bind_eq_some_iff.mp H;obtain ⟨qla,qxo,H⟩:=H;replace H:((QX.f qla 20).bind fun qgN=>(if UR.length<17592186044416 then (Qt.l0 k1 a1 a2 a3 l4 (UR++[mx 0 (wrap64 (qjh-qgN))]) (wrap64 (WR+1)) Qa Qf Qb) else (none)))=some (r1,r2):=H;have A14:=Q0.mk qxo;clear qxo;replace H:=Option.bind_eq_some_iff.mp H;obtain ⟨qgN,qxp,H⟩:=H;replace H:(if UR.length<17592186044416 then (Qt.l0 k1 a1 a2 a3 l4 (UR++[mx 0 (wrap64 (qjh-qgN))]) (wrap64 (WR+1)) Qa Qf Qb) else (none))=some (r1,r2):=H;have A15:=Q0.mk qxp;clear qxp;obtain ⟨qlT,qgn⟩:∃ j_:Int,(mx 0 (wrap64 (qjh-qgN)))=j_:=⟨_,rfl⟩
         replace H:(if UR.length<17592186044416 then (Qt.l0 k1 a1 a2 a3 l4 (UR++[qlT]) (wrap64 (WR+1)) Qa Qf Qb) else (none))=some (r1,r2):=by first|(rw [qgn] at H;exact H)|(simp only [qgn] at H ⊢;exact H)
         (try rw [qgn] at A13)
         (try rw [qgn] at A14)
         (try rw [qgn] at A15)
         (try (have hji16l:0≤qlT:=by (rw [← qgn];unfold mx;(repeat' split)<;>omega)))
         (try (have hji16m:0≤qlT:=by omega))
         have hji16_:(if 0<(wrap64 (qjh-qgN)) then (wrap64 (qjh-qgN)) else 0)=qlT:=qgn
         by_cases c17:UR.length<17592186044416
         ·
          rw [if_pos c17] at H;have qx6:=Q0.mk c17;clear c17;obtain ⟨qA8,qkB⟩:∃ y_:List Int,y_=(UR++[qlT]):=⟨_,rfl⟩
          replace H:(Qt.l0 k1 a1 a2 a3 l4 qA8 (wrap64 (WR+1)) Qa Qf Qb)=some (r1,r2):=by first|(rw [qkB];with_reducible exact H)|(have H2_:=(Option.bind_some _ _).symm.trans H;rw [qkB];with_reducible exact H2_)|(have H2_:=(Option.bind_some _ _).symm.trans H;with_reducible exact H2_)|with_reducible exact H|(rw [qkB];exact H)|exact H
          have qx9:=Q0.mk qkB;clear qkB;have H':=Q0.mk H;clear H;have GZ:wr.cell? ⟨UV,0,none⟩=some (.slice QD Qa.length Qu):=(Q9 GE.out 0).trans rfl;have K0:wr.cell? ⟨UV,1,none⟩=some (.slice QB Qf.length Qv):=(Q9 GE.out 1).trans rfl;have K1:wr.cell? ⟨UV,2,none⟩=some (.slice QK Qb.length Qw):=(Q9 GE.out 2).trans rfl;have Kb:=Q8 GE.out 0;have Ke:=Q8 GE.out 1;have Kf:=Q8 GE.out 2;have qmc:0≤(a2:Int):=of_decide_eq_true (by first|(with_reducible assumption)|assumption);have qms:a2<(Qb.length:Int):=of_decide_eq_true (by first|(with_reducible assumption)|assumption);obtain ⟨qgf,qvD,qv8,qwo,qaF,qdM,qdB⟩:=WY Z5.out a2 qmc qms;cases qwo;replace qaF:=(HB.out.cell (World.block_lt_of_cell? w _ qaF)).trans qaF;have qhL:=Q0.mk qdB;have qr5:=Q0.mk qdM;clear qdB qdM;replace qmc:=eq_true qmc;replace qms:=eq_true qms;have qmd:0≤(a1:Int):=of_decide_eq_true (by first|(with_reducible assumption)|assumption);have qmt:a1<((Qs Qb a2).length:Int):=of_decide_eq_true (by first|(with_reducible assumption)|assumption);obtain ⟨qyq,qvE,qv9,qwp,qaG,qdN,qdC⟩:=WX qhL.out a1 qmd qmt;cases qwp;replace qaG:=(HB.out.cell (World.block_lt_of_cell? w _ qaG)).trans qaG;have qsg:=Q0.mk qdC;have qr6:=Q0.mk qdN;clear qdC qdN;replace qmd:=eq_true qmd;replace qmt:=eq_true qmt;have qwV:0≤(a1:Int):=of_decide_eq_true (by first|(with_reducible assumption)|assumption);have qw9:a1<(Qf.length:Int):=of_decide_eq_true (by first|(with_reducible assumption)|assumption);obtain ⟨qyr,qHd,qiQ⟩:=Kd.at_int Zj.out a1 qwV qw9;cases qHd;replace qiQ:=(HB.out.cell (World.block_lt_of_cell? w _ qiQ)).trans qiQ;replace qwV:=eq_true qwV;replace qw9:=eq_true qw9
          go_wp2_with (first|((with_reducible refine QG (f:=48) rfl ?_);refine YF (some 35) rfl rfl Try.func48 (by kernel_rfl) rfl #[.int .i64 (wrap64 (a3*(rd Qf a1))),.int .i64 100] rfl (by (try simp only [List.map_toArray,List.map_cons,List.map_nil]);first|done|rfl|(simp only [List.length_drop,List.length_take];rfl)) ?_;(with_reducible refine (GN.calls (wrap64 (a3*(rd Qf a1))) 100 qjh _ A13.out).mono ?_);rintro e w' ⟨rfl,⟨nd,rfl⟩⟩;refine ⟨_,rfl,?_⟩)|((with_reducible refine QG (f:=42) rfl ?_);refine YF (some 38) rfl rfl Try.func42 (by kernel_rfl) rfl #[.slice A4 l4.length c4,.int .i64 WR] rfl (by (try simp only [List.map_toArray,List.map_cons,List.map_nil]);first|done|rfl|(simp only [List.length_drop,List.length_take];rfl)) ?_;(with_reducible refine (Gv.calls _ _ l4 WR qla _ ?side1 ?side2 A14.out).mono ?_);(case side1=>repeat (first|exact (Kd.C_below HR4.out (by repeat (first|(with_reducible first|exact HB.out|apply Q3|apply Q1|apply Q6|refine Q5 ?_ qb5.out)|exact HB.out)))|(with_reducible refine Kd.C_alloc ?_ _)|(with_reducible refine Kd.C_drewN ?_ _)|(with_reducible refine Kd.C_drew ?_)));(case side2=>exact HC4.out);rintro e w' ⟨rfl,⟨nd,rfl⟩⟩;refine ⟨_,rfl,?_⟩)|((with_reducible refine QG (f:=36) rfl ?_);refine YF (some 39) rfl rfl Try.func36 (by kernel_rfl) rfl #[.int .i64 qla,.int .i64 20] rfl (by (try simp only [List.map_toArray,List.map_cons,List.map_nil]);first|done|rfl|(simp only [List.length_drop,List.length_take];rfl)) ?_;(with_reducible refine (QX.calls qla 20 qgN _ A15.out).mono ?_);rintro e w' ⟨rfl,⟨nd,rfl⟩⟩;refine ⟨_,rfl,?_⟩)|((with_reducible refine qhV (b:=.append) (xs:=#[.tmp 27,.tmp 42]) rfl ?_);at_builtin;refine Kd.R_append (Kd.int .i64) (w0:=w) w.heap.size rfl (.tmp 27) (.tmp 42) 37 3 (.int .i64 0) 8 rfl Try.underlying37 qdZ rfl (by decide) (by omega) u12 UR qlT [.int .i64 qlT] (fun k_=>(w.heap.size≤k_)) (fun _=>False) rfl rfl ?aP (fun _ hk=>hk.elim) ?aF ?aO ?aB ?aS ?aL ?_;(case aP=>exact rfl);(case aB=>exact (by repeat (first|(with_reducible first|exact HB.out|apply Q3|apply Q1|apply Q6|refine Q5 ?_ qb5.out)|exact HB.out)));(case aF=>exact (fun k_ hk=>(Nat.le_trans (Qh (by repeat (first|(with_reducible first|exact HB.out|apply Q3|apply Q1|apply Q6|refine Q5 ?_ qb5.out)|exact HB.out))) hk)));(case aO=>exact (by (with_reducible repeat (first|apply Kd.R_alloc|apply Kd.R_drewN|apply Kd.R_drew));exact HO_12.out));(case aS=>exact (Qh (by repeat (first|(with_reducible first|exact HB.out|apply Q3|apply Q1|apply Q6|refine Q5 ?_ qb5.out)|exact HB.out))));(case aL=>have:=qx6.out;omega);intro qL1 w19 ho hb hg hat;rw [← qx9.out] at ho;have n0_:=Q0.mk (GK (g:=UV) (by (with_reducible repeat (first|refine Q4 ?_ _|refine Q7 ?_|refine Q2 ?_ _));exact GE.out) hg (Kd.R_ne HO_12.out GE.out (by decide)));have n1_:=Q0.mk (hb);have n2_:=Q0.mk (ho);clear GE HB HO_12;have GE:=n0_;have HB:=n1_;have qx3:=n2_;clear n0_ n1_ n2_ ho hb hg hat))
          go_roundg k1
          case measure=>have:=HK1.out;omega
          case rel=>exact ⟨(qA8),(wrap64 (WR+1)),(by first|rfl|(simp;done)|(simp [*];done)),H',⟨by have:=HK1.out;omega⟩,⟨by (with_reducible repeat (first|apply Kd.R_alloc|apply Kd.R_drewN|apply Kd.R_drew));exact qx3.out⟩,⟨by (with_reducible repeat (first|refine Q4 ?_ _|refine Q7 ?_|refine Q2 ?_ _));exact GE.out⟩,⟨by repeat (first|(with_reducible first|exact HB.out|apply Q3|apply Q1|apply Q6|refine Q5 ?_ qb5.out)|exact HB.out)⟩⟩
         rw [if_neg c17] at H
         exact absurd H (by simp)
        rw [if_neg c12] at H
        exact absurd H (by simp)
       rw [if_neg c11] at H;have c11b0:decide (WR<((QC (Qs Qb a2) a1).length:Int))=false:=decide_eq_false c11;clear c11
       by_cases c20:a1<(Qa.length:Int)
       ·
        rw [if_pos c20] at H;have c20b0:decide (a1<(Qa.length:Int))=true:=decide_eq_true c20;clear c20;replace H:=Option.bind_eq_some_iff.mp H;obtain ⟨⟨qA3,qA4⟩,qjF,H⟩:=H;replace H:(some (qA3,qA4))=some (r1,r2):=H;have A21:=Q0.mk qjF;clear qjF;simp only [Option.some.injEq,Prod.mk.injEq] at H;obtain ⟨rfl,rfl⟩:=H;have XV:wr.cell? ⟨UV,0,none⟩=some (.slice QD Qa.length Qu):=(Q9 GE.out 0).trans rfl;have XW:wr.cell? ⟨UV,1,none⟩=some (.slice QB Qf.length Qv):=(Q9 GE.out 1).trans rfl;have XX:wr.cell? ⟨UV,2,none⟩=some (.slice QK Qb.length Qw):=(Q9 GE.out 2).trans rfl;have qaj:=Q8 GE.out 0;have qak:=Q8 GE.out 1;have qal:=Q8 GE.out 2;have qmc:0≤(a2:Int):=of_decide_eq_true (by first|(with_reducible assumption)|assumption);have qms:a2<(Qb.length:Int):=of_decide_eq_true (by first|(with_reducible assumption)|assumption);obtain ⟨qgf,qvD,qv8,qwo,qaF,qdM,qdB⟩:=WY Z5.out a2 qmc qms;cases qwo;replace qaF:=(HB.out.cell (World.block_lt_of_cell? w _ qaF)).trans qaF;have qhL:=Q0.mk qdB;have qr5:=Q0.mk qdM;clear qdB qdM;replace qmc:=eq_true qmc;replace qms:=eq_true qms;have qmd:0≤(a1:Int):=of_decide_eq_true (by first|(with_reducible assumption)|assumption);have qmt:a1<((Qs Qb a2).length:Int):=of_decide_eq_true (by first|(with_reducible assumption)|assumption);obtain ⟨qyq,qvE,qv9,qwp,qaG,qdN,qdC⟩:=WX qhL.out a1 qmd qmt;cases qwp;replace qaG:=(HB.out.cell (World.block_lt_of_cell? w _ qaG)).trans qaG;have qsg:=Q0.mk qdC;have qr6:=Q0.mk qdN;clear qdC qdN;replace qmd:=eq_true qmd;replace qmt:=eq_true qmt
        try go_wp2
        have n0_:=Q0.mk (Kd.R_drew HO_12.out);have n1_:=Q0.mk (Q7 GE.out);have n2_:=Q0.mk (Q6 HB.out);clear HO_12 GE HB;have HO_12:=n0_;have GE:=n1_;have HB:=n2_;clear n0_ n1_ n2_;have qwW:0≤(a1:Int):=of_decide_eq_true (by first|(with_reducible assumption)|assumption);have qxa:a1<(Qa.length:Int):=of_decide_eq_true (by first|(with_reducible assumption)|assumption);obtain ⟨qaS,qps,qqe,qpt,qqf,qpu,qqg,qHe,qdS,qdT,qdU,qdV,qdW,qn1,qnI,qn2,qnJ,qn3,qnK⟩:=KR YV.out a1 qwW qxa;have qfK:=qdW;have qfJ:=qdV;have qfI:=qdU;have qfH:=qdT;have qfG:=qdS;cases qHe;replace qdS:=(HB.out.cell (World.block_lt_of_cell? w _ qdS)).trans qdS;replace qdT:=(HB.out.cell (World.block_lt_of_cell? w _ qdT)).trans qdT;replace qdU:=(HB.out.cell (World.block_lt_of_cell? w _ qdU)).trans qdU;replace qdV:=(HB.out.cell (World.block_lt_of_cell? w _ qdV)).trans qdV;replace qdW:=(HB.out.cell (World.block_lt_of_cell? w _ qdW)).trans qdW;have qm6:=Q0.mk qnI;have qr7:=Q0.mk qn1;clear qnI qn1;have qm7:=Q0.mk qnJ;have qr8:=Q0.mk qn2;clear qnJ qn2;have qm8:=Q0.mk qnK;have qr9:=Q0.mk qn3;clear qnK qn3;replace qwW:=eq_true qwW;replace qxa:=eq_true qxa;have qwX:0≤(a2:Int):=of_decide_eq_true (by first|(with_reducible assumption)|assumption);have qxb:a2<(Qb.length:Int):=of_decide_eq_true (by first|(with_reducible assumption)|assumption);obtain ⟨qys,qGJ,qwa,qHf,qdX,qn4,qnL⟩:=WY Z5.out a2 qwX qxb;have qfL:=qdX;obtain rfl:qgf=qys:=(by injection qHf);replace qdX:=(HB.out.cell (World.block_lt_of_cell? w _ qdX)).trans qdX;have qm9:=Q0.mk qnL;have qBk:=Q0.mk qn4;clear qnL qn4;replace qwX:=eq_true qwX;replace qxb:=eq_true qxb;have qwY:0≤(a1:Int):=of_decide_eq_true (by first|(with_reducible assumption)|assumption);have qxc:a1<((Qs Qb a2).length:Int):=of_decide_eq_true (by first|(with_reducible assumption)|assumption);obtain ⟨qvf,qpv,qqh,qHg,qdY,qn5,qnM⟩:=WX qm9.out a1 qwY qxc;have qfM:=qdY;cases qHg;replace qdY:=(HB.out.cell (World.block_lt_of_cell? w _ qdY)).trans qdY;have qna:=Q0.mk qnM;have qsa:=Q0.mk qn5;clear qnM qn5;replace qwY:=eq_true qwY;replace qxc:=eq_true qxc;obtain ⟨qxJ,qyA,qyM⟩:=Kd.R_slice HO_12.out
        (first|subst qyM|(injection qyM with f1_ f2_ f3_;have f4_:=f1_.symm;have f5_:=f3_.symm;clear f1_ f2_ f3_;subst f4_;subst f5_))
        refine qaJ (n:=19) (S:=fun w'=>w'.cell? ⟨UV,0,none⟩=some (.slice (some qaS) Qa.length Qu)∧w'.cell? ⟨UV,1,none⟩=some (.slice QB Qf.length Qv)∧w'.cell? ⟨UV,2,none⟩=some (.slice (some qgf) Qb.length Qw)∧w'.cell? (qaS.add ((a1).toNat*5))=some (.slice qps ((Qe Qa a1).f0).length qqe)∧w'.cell? ⟨(qaS.add ((a1).toNat*5)).block,(qaS.add ((a1).toNat*5)).off+1,none⟩=some (.slice qpt ((Qe Qa a1).f1).length qqf)∧w'.cell? ⟨(qaS.add ((a1).toNat*5)).block,(qaS.add ((a1).toNat*5)).off+2,none⟩=some (.slice qpu ((Qe Qa a1).f2).length qqg)∧w'.cell? ⟨(qaS.add ((a1).toNat*5)).block,(qaS.add ((a1).toNat*5)).off+3,none⟩=some (.int .i64 ((Qe Qa a1).f3))∧w'.cell? ⟨(qaS.add ((a1).toNat*5)).block,(qaS.add ((a1).toNat*5)).off+4,none⟩=some (.int .i64 ((Qe Qa a1).f4))∧w'.cell? (qgf.add (a2).toNat)=some (.slice (some qvf) (Qs Qb a2).length qwa)∧w'.cell? (qvf.add (a1).toNat)=some (.slice qpv (QC (Qs Qb a2) a1).length qqh)) (ds:=[]) #[false,false,false,false,false,false,false,false,false,false,false,false,false,false,false,false,false,false,false] (by kernel_rfl) rfl rfl ⟨(Q9 GE.out 0).trans rfl,(Q9 GE.out 1).trans rfl,(Q9 GE.out 2).trans rfl,((HB.out.cell (World.block_lt_of_cell? w _ qfG)).trans qfG),((HB.out.cell (World.block_lt_of_cell? w _ qfH)).trans qfH),((HB.out.cell (World.block_lt_of_cell? w _ qfI)).trans qfI),((HB.out.cell (World.block_lt_of_cell? w _ qfJ)).trans qfJ),((HB.out.cell (World.block_lt_of_cell? w _ qfK)).trans qfK),((HB.out.cell (World.block_lt_of_cell? w _ qfL)).trans qfL),((HB.out.cell (World.block_lt_of_cell? w _ qfM)).trans qfM)⟩ (fun hHeld => ?_);refine OM Qt.tab6 Qt.bits6 (fun HT_ HW_ => ?_)
        generalize wr.drew=w23 at HO_12 GE HB qm6 qm7 qm8 qm9 qna qdS qdT qdU qdV qdW qdX qdY hHeld ⊢
        refine Yu (i:=0) (N:=some 44) (v:=?_) (a':=?_) #[true,false,false,false,false,false,false,false,false,false,false,false,false,false,false,false,false,false,false] rfl rfl (Y8 HT_.out (by kernel_rfl)) (fun _ _ _ h=>h) (Or.inl ⟨by rfl,?_⟩) ?_ ?_
        rotate_left
        ·
         intro w'
         go_simp
         with_reducible rfl
        rotate_left
        ·
         simp only [Act.put,List.setIfInBounds_toArray,List.set_cons_zero,List.set_cons_succ,QL,QO]
         rfl
        refine Yu (i:=2) (N:=some 46) (v:=?_) (a':=?_) #[true,false,true,false,false,false,false,false,false,false,false,false,false,false,false,false,false,false,false] rfl rfl (Y8 HT_.out (by kernel_rfl)) (fun _ _ _ h=>h) (Or.inl ⟨by rfl,?_⟩) ?_ ?_
        rotate_left
        ·
         intro w'
         go_simp
         with_reducible rfl
        rotate_left
        ·
         simp only [Act.put,List.setIfInBounds_toArray,List.set_cons_zero,List.set_cons_succ,QL,QO]
         rfl
        refine Yu (i:=5) (N:=some 49) (v:=?_) (a':=?_) #[true,false,true,false,false,true,false,false,false,false,false,false,false,false,false,false,false,false,false] rfl rfl (Y8 HT_.out (by kernel_rfl)) (fun _ _ _ h=>h) (Or.inl ⟨by rfl,?_⟩) ?_ ?_
        rotate_left
        ·
         intro w'
         go_simp
         with_reducible rfl
        rotate_left
        ·
         simp only [Act.put,List.setIfInBounds_toArray,List.set_cons_zero,List.set_cons_succ,QL,QO]
         rfl
        refine Yu (i:=6) (N:=some 50) (v:=?_) (a':=?_) #[true,false,true,false,false,true,true,false,false,false,false,false,false,false,false,false,false,false,false] rfl rfl (Y8 HT_.out (by kernel_rfl)) (fun _ _ _ h=>h) (Or.inl ⟨by rfl,?_⟩) ?_ ?_
        rotate_left
        ·
         intro w'
         go_simp
         with_reducible rfl
        rotate_left
        ·
         simp only [Act.put,List.setIfInBounds_toArray,List.set_cons_zero,List.set_cons_succ,QL,QO]
         rfl
        refine Yu (i:=8) (N:=some 52) (v:=?_) (a':=?_) #[true,false,true,false,false,true,true,false,true,false,false,false,false,false,false,false,false,false,false] rfl rfl (Y8 HT_.out (by kernel_rfl)) (fun _ _ _ h=>h) (Or.inl ⟨by rfl,?_⟩) ?_ ?_
        rotate_left
        ·
         intro w'
         go_simp
         with_reducible rfl
        rotate_left
        ·
         simp only [Act.put,List.setIfInBounds_toArray,List.set_cons_zero,List.set_cons_succ,QL,QO]
         rfl
        refine Yu (i:=11) (N:=some 55) (v:=?_) (a':=?_) #[true,false,true,false,false,true,true,false,true,false,false,true,false,false,false,false,false,false,false] rfl rfl (Y8 HT_.out (by kernel_rfl)) (fun _ _ _ h=>h) (Or.inl ⟨by rfl,?_⟩) ?_ ?_
        rotate_left
        ·
         intro w'
         go_simp
         with_reducible rfl
        rotate_left
        ·
         simp only [Act.put,List.setIfInBounds_toArray,List.set_cons_zero,List.set_cons_succ,QL,QO]
         rfl
        refine Gp (i:=1) (N:=some 45) (v:=?_) (a':=?_) #[true,true,true,false,false,true,true,false,true,false,false,true,false,false,false,false,false,false,false] rfl rfl (Zg HT_.out HW_.out (by kernel_rfl)) (fun _ _ _ h=>h) (Or.inl ⟨by rfl,?_⟩) hHeld ?_ ?_
        rotate_left
        ·
         rintro w' ⟨s0,s1,s2,s3,s4,s5,s6,s7,s8,s9⟩
         go_simp
         with_reducible rfl
        rotate_left
        ·
         simp only [Act.put,List.setIfInBounds_toArray,List.set_cons_zero,List.set_cons_succ,QL,QO]
         rfl
        refine Yu (i:=3) (N:=some 47) (v:=?_) (a':=?_) #[true,true,true,true,false,true,true,false,true,false,false,true,false,false,false,false,false,false,false] rfl rfl (Y8 HT_.out (by kernel_rfl)) (fun _ _ _ h=>h) (Or.inl ⟨by rfl,?_⟩) ?_ ?_
        rotate_left
        ·
         intro w'
         go_simp
         with_reducible rfl
        rotate_left
        ·
         simp only [Act.put,List.setIfInBounds_toArray,List.set_cons_zero,List.set_cons_succ,QL,QO]
         rfl
        refine Gp (i:=4) (N:=some 48) (v:=?_) (a':=?_) #[true,true,true,true,true,true,true,false,true,false,false,true,false,false,false,false,false,false,false] rfl rfl (Zg HT_.out HW_.out (by kernel_rfl)) (fun _ _ _ h=>h) (Or.inl ⟨by rfl,?_⟩) hHeld ?_ ?_
        rotate_left
        ·
         rintro w' ⟨s0,s1,s2,s3,s4,s5,s6,s7,s8,s9⟩
         go_simp
         with_reducible rfl
        rotate_left
        ·
         simp only [Act.put,List.setIfInBounds_toArray,List.set_cons_zero,List.set_cons_succ,QL,QO]
         rfl
        refine Gp (i:=7) (N:=some 51) (v:=?_) (a':=?_) #[true,true,true,true,true,true,true,true,true,false,false,true,false,false,false,false,false,false,false] rfl rfl (Zg HT_.out HW_.out (by kernel_rfl)) (fun _ _ _ h=>h) (Or.inl ⟨by rfl,?_⟩) hHeld ?_ ?_
        rotate_left
        ·
         rintro w' ⟨s0,s1,s2,s3,s4,s5,s6,s7,s8,s9⟩
         go_simp
         with_reducible rfl
        rotate_left
        ·
         simp only [Act.put,List.setIfInBounds_toArray,List.set_cons_zero,List.set_cons_succ,QL,QO]
         rfl
        refine Yu (i:=9) (N:=some 53) (v:=?_) (a':=?_) #[true,true,true,true,true,true,true,true,true,true,false,true,false,false,false,false,false,false,false] rfl rfl (Y8 HT_.out (by kernel_rfl)) (fun _ _ _ h=>h) (Or.inl ⟨by rfl,?_⟩) ?_ ?_
        rotate_left
        ·
         intro w'
         go_simp
         with_reducible rfl
        rotate_left
        ·
         simp only [Act.put,List.setIfInBounds_toArray,List.set_cons_zero,List.set_cons_succ,QL,QO]
         rfl
        refine Gp (i:=10) (N:=some 54) (v:=?_) (a':=?_) #[true,true,true,true,true,true,true,true,true,true,true,true,false,false,false,false,false,false,false] rfl rfl (Zg HT_.out HW_.out (by kernel_rfl)) (fun _ _ _ h=>h) (Or.inl ⟨by rfl,?_⟩) hHeld ?_ ?_
        rotate_left
        ·
         rintro w' ⟨s0,s1,s2,s3,s4,s5,s6,s7,s8,s9⟩
         go_simp
         with_reducible rfl
        rotate_left
        ·
         simp only [Act.put,List.setIfInBounds_toArray,List.set_cons_zero,List.set_cons_succ,QL,QO]
         rfl
        refine Yu (i:=12) (N:=some 56) (v:=?_) (a':=?_) #[true,true,true,true,true,true,true,true,true,true,true,true,true,false,false,false,false,false,false] rfl rfl (Y8 HT_.out (by kernel_rfl)) (fun _ _ _ h=>h) (Or.inl ⟨by rfl,?_⟩) ?_ ?_
        rotate_left
        ·
         intro w'
         go_simp
         with_reducible rfl
        rotate_left
        ·
         simp only [Act.put,List.setIfInBounds_toArray,List.set_cons_zero,List.set_cons_succ,QL,QO]
         rfl
        refine Gp (i:=13) (N:=some 57) (v:=?_) (a':=?_) #[true,true,true,true,true,true,true,true,true,true,true,true,true,true,false,false,false,false,false] rfl rfl (Zg HT_.out HW_.out (by kernel_rfl)) (fun _ _ _ h=>h) (Or.inl ⟨by rfl,?_⟩) hHeld ?_ ?_
        rotate_left
        ·
         rintro w' ⟨s0,s1,s2,s3,s4,s5,s6,s7,s8,s9⟩
         go_simp
         with_reducible rfl
        rotate_left
        ·
         simp only [Act.put,List.setIfInBounds_toArray,List.set_cons_zero,List.set_cons_succ,QL,QO]
         rfl
        refine one_ (i:=14) (N:=some 58) #[true,true,true,true,true,true,true,true,true,true,true,true,true,true,true,false,false,false,false] rfl rfl (OG HT_.out (by kernel_rfl)) (by decide) (fun K hK => ?_);refine qcc Try.func25 (by kernel_rfl) rfl #[.agg #[.slice qps ((Qe Qa a1).f0).length qqe,.slice qpt ((Qe Qa a1).f1).length qqf,.slice qpu ((Qe Qa a1).f2).length qqg,.int .i64 ((Qe Qa a1).f3),.int .i64 ((Qe Qa a1).f4)],.slice qxJ UR.length qyA,.slice qpv (QC (Qs Qb a2) a1).length qqh] (by rfl) rfl rfl (by (try simp only [List.map_toArray,List.map_cons,List.map_nil]);first|done|rfl|(simp only [List.length_drop,List.length_take];rfl)) ?_
        with_reducible refine (Qx.calls k1 _ _ ((Qe Qa a1).f0) _ _ ((Qe Qa a1).f1) _ _ ((Qe Qa a1).f2) ((Qe Qa a1).f3) ((Qe Qa a1).f4) _ _ UR _ _ (QC (Qs Qb a2) a1) qA3 qA4 _ ?side1 ?side2 ?side3 ?side4 ?side5 ?side6 ?side7 ?side8 ?side9 ?side10 A21.out).mono ?_
        (case side1=>repeat (first|exact (Kd.C_below qm6.out HB.out)|(with_reducible refine Kd.C_alloc ?_ _)|(with_reducible refine Kd.C_drewN ?_ _)|(with_reducible refine Kd.C_drew ?_)))
        (case side2=>exact qr7.out)
        (case side3=>repeat (first|exact (Kd.C_below qm7.out HB.out)|(with_reducible refine Kd.C_alloc ?_ _)|(with_reducible refine Kd.C_drewN ?_ _)|(with_reducible refine Kd.C_drew ?_)))
        (case side4=>exact qr8.out)
        (case side5=>repeat (first|exact (Kd.C_below qm8.out HB.out)|(with_reducible refine Kd.C_alloc ?_ _)|(with_reducible refine Kd.C_drewN ?_ _)|(with_reducible refine Kd.C_drew ?_)))
        (case side6=>exact qr9.out)
        (case side7=>repeat (first|exact (Kd.R_reads' HO_12.out).2.2|(with_reducible refine Kd.C_alloc ?_ _)|(with_reducible refine Kd.C_drewN ?_ _)|(with_reducible refine Kd.C_drew ?_)))
        (case side8=>exact (Kd.R_reads' HO_12.out).2.1)
        (case side9=>repeat (first|exact (Kd.C_below qna.out HB.out)|(with_reducible refine Kd.C_alloc ?_ _)|(with_reducible refine Kd.C_drewN ?_ _)|(with_reducible refine Kd.C_drew ?_)))
        (case side10=>exact qsa.out)
        rintro e w25 ⟨qL2,rfl,ho0,hb⟩;refine ⟨_,rfl,?_⟩;have n0_:=Q0.mk (Kd.R_below (by (with_reducible repeat (first|apply Kd.R_alloc|apply Kd.R_drewN|apply Kd.R_drew));exact HO_12.out) hb);have n1_:=Q0.mk (Kd.V_lower (Kd.V_mono (ok':=fun k_=>(w.heap.size≤k_)∧some k_≠(.slice qxJ UR.length qyA:Value).ownBlock∧k_≠UV) ho0 (fun k_ hk_=>⟨(Nat.le_trans (Qh (by repeat (first|(with_reducible first|exact HB.out|apply Q3|apply Q1|apply Q6|refine Q5 ?_ qb5.out)|exact HB.out))) hk_),(Kd.fresh' (Kd.R_lt (by (with_reducible repeat (first|apply Kd.R_alloc|apply Kd.R_drewN|apply Kd.R_drew));exact HO_12.out)) k_ hk_),(Kd.freshB (g:=UV) (by (with_reducible repeat (first|refine Q4 ?_ _|refine Q7 ?_|refine Q2 ?_ _));exact GE.out) k_ hk_)⟩)) (Qh (by repeat (first|(with_reducible first|exact HB.out|apply Q3|apply Q1|apply Q6|refine Q5 ?_ qb5.out)|exact HB.out))));have n2_:=Q0.mk (Qg (g:=UV) (by (with_reducible repeat (first|refine Q4 ?_ _|refine Q7 ?_|refine Q2 ?_ _));exact GE.out) hb);have n3_:=Q0.mk (Qk (by repeat (first|(with_reducible first|exact HB.out|apply Q3|apply Q1|apply Q6|refine Q5 ?_ qb5.out)|exact HB.out)) hb);clear HO_12 GE HB;have HO_12:=n0_;have qx4:=n1_;have GE:=n2_;have HB:=n3_;clear n0_ n1_ n2_ n3_
        (try clear hb)
        (try clear hb2)
        (try clear hk)
        (try clear hi)
        (try clear ho0)
        refine hK.out _ _ ⟨(Q9 GE.out 0).trans rfl,(Q9 GE.out 1).trans rfl,(Q9 GE.out 2).trans rfl,((HB.out.cell (World.block_lt_of_cell? w _ qfG)).trans qfG),((HB.out.cell (World.block_lt_of_cell? w _ qfH)).trans qfH),((HB.out.cell (World.block_lt_of_cell? w _ qfI)).trans qfI),((HB.out.cell (World.block_lt_of_cell? w _ qfJ)).trans qfJ),((HB.out.cell (World.block_lt_of_cell? w _ qfK)).trans qfK),((HB.out.cell (World.block_lt_of_cell? w _ qfL)).trans qfL),((HB.out.cell (World.block_lt_of_cell? w _ qfM)).trans qfM)⟩ (fun hHeld => ?_);clear hK K;refine KL (a':=?_) ?_ ?_
        rotate_left
        ·
         show Act.put _ (some 58) _=_
         simp only [Act.put,List.setIfInBounds_toArray,List.set_cons_zero,List.set_cons_succ,QL,QO]
         rfl
        refine Yu (i:=15) (N:=some 59) (v:=?_) (a':=?_) #[true,true,true,true,true,true,true,true,true,true,true,true,true,true,true,true,false,false,false] rfl rfl (Y8 HT_.out (by kernel_rfl)) (fun _ _ _ h=>h) (Or.inl ⟨by rfl,?_⟩) ?_ ?_
        rotate_left
        ·
         intro w'
         go_simp
         with_reducible rfl
        rotate_left
        ·
         simp only [Act.put,List.setIfInBounds_toArray,List.set_cons_zero,List.set_cons_succ,QL,QO]
         rfl
        refine Yu (i:=16) (N:=some 60) (v:=?_) (a':=?_) #[true,true,true,true,true,true,true,true,true,true,true,true,true,true,true,true,true,false,false] rfl rfl (Y8 HT_.out (by kernel_rfl)) (fun _ _ _ h=>h) (Or.inl ⟨by rfl,?_⟩) ?_ ?_
        rotate_left
        ·
         intro w'
         go_simp
         with_reducible rfl
        rotate_left
        ·
         simp only [Act.put,List.setIfInBounds_toArray,List.set_cons_zero,List.set_cons_succ,QL,QO]
         rfl
        refine Yu (i:=17) (N:=some 10) (v:=?_) (a':=?_) #[true,true,true,true,true,true,true,true,true,true,true,true,true,true,true,true,true,true,false] rfl rfl (Y8 HT_.out (by kernel_rfl)) (fun _ _ _ h=>h) (Or.inl ⟨by rfl,?_⟩) ?_ ?_
        rotate_left
        ·
         intro w'
         go_simp
         with_reducible rfl
        rotate_left
        ·
         simp only [Act.put,List.setIfInBounds_toArray,List.set_cons_zero,List.set_cons_succ,QL,QO]
         rfl
        refine Yu (i:=18) (N:=some 11) (v:=?_) (a':=?_) #[true,true,true,true,true,true,true,true,true,true,true,true,true,true,true,true,true,true,true] rfl rfl (Y8 HT_.out (by kernel_rfl)) (fun _ _ _ h=>h) (Or.inl ⟨by rfl,?_⟩) ?_ ?_
        rotate_left
        ·
         intro w'
         go_simp
         with_reducible rfl
        rotate_left
        ·
         simp only [Act.put,List.setIfInBounds_toArray,List.set_cons_zero,List.set_cons_succ,QL,QO]
         rfl
        refine qcU (X1 HT_.out (by kernel_rfl)) ?_
        try go_wp2
        go_ret2
        exact ⟨_,by first|rfl|(simp [Qz,QA]<;>rfl)|(simp [*,Qz,QA]<;>rfl),by (with_reducible repeat (first|apply Kd.V_alloc|apply Kd.V_drewN|apply Kd.V_drew));exact Kd.V_mono qx4.out (fun _ hk=>hk.1),by repeat (first|(with_reducible first|exact HB.out|apply Q3|apply Q1|apply Q6|refine Q5 ?_ qb5.out)|exact HB.out)⟩
       rw [if_neg c20] at H
       exact absurd H (by simp)
      rw [if_neg c10] at H
      exact absurd H (by simp)
     rw [if_neg c9] at H
     exact absurd H (by simp)
    rw [if_neg c8] at H
    exact absurd H (by simp)
   rw [if_neg c7] at H
   exact absurd H (by simp)
end
end Go.Proofs.Ytmhomdohhihlcaa.P
namespace Go.Proofs.Ytmhomdohhihlcaa.P
open Go.RowKit Go.Maps Go.Proofs.YtmhomdohhihlcaaW.PrintWords Go.Proofs.YtmhomdohhihlcaaW.PrintLast Go.Proofs.YtmhomdohhihlcaaW.PrintMore
theorem qtX:laidOutB Try.prog=true:=by kernel_rfl
theorem qbv:Keyed Try.prog 139:=Keyed.of_law (deep_law_laid qtX (m:=2) (by omega) (of_decide_eq_true (by kernel_rfl)) (by kernel_rfl) (by rw [Try.underlying139]))
theorem qlU:Try.prog.keyType 139=true:=by kernel_rfl
theorem qjZ:Try.prog.cellsOf 139=1:=by kernel_rfl
theorem qwb:Try.prog.cellsOf 3=1:=by kernel_rfl
theorem qmB:∃ m,Try.prog.types.size=m+1:=⟨Try.prog.types.size-1,by
 have:0<Try.prog.types.size:=of_decide_eq_true (by kernel_rfl)
 omega⟩
theorem qiS {c:Int} (hc:(Lit.int .i64 c).wf=true):keyOf Try.prog 139 (.agg #[.int .i64 c])=some (.string (keyBytes [.int .i64 c])):=by
 obtain ⟨m,hm⟩:=qmB
 have hkt:=qlU
 unfold keyOf
 simp only [Try.underlying139]
 rw [if_pos (by simp [hkt,Value.formed,Try.underlying139,qjZ]),hm]
 unfold Program.keyLits
 simp only [Try.underlying139,Value.cells]
 rw [if_pos (by rw [qjZ];exact ⟨rfl,by simp⟩)]
 simp [qwb,Program.keyLits,Try.underlying3,hc]
def Yg.l (x:Int):Nat→List JE→Int→Int→Int × Int
 | _,[],a,b=>(a,b)
 | i,c::cs,a,b=>if (Go.bits .and .i64 (shr .i64 x (i:Int)) 1==1)=true then Yg.l x (i+1) cs (wrap64 (a+c.f0)) (wrap64 (b+c.f1)) else Yg.l x (i+1) cs a b
def Yg.s (cells:List JE) (x:Int):Int × Int:=Yg.l x 0 cells 0 0
theorem qyt (i:Nat):(Go.bits .and .i64 (shr .i64 0 (i:Int)) 1==1)=false:=by
 have:shr .i64 0 (i:Int)=0:=by simp [shr]
 rw [this]
 rfl
theorem qi0:∀ (cells:List JE) (i:Nat) (a b:Int),Yg.l 0 i cells a b=(a,b)
 | [],_,_,_=>rfl
 | c::cs,i,a,b=>by rw [Yg.l,if_neg (by rw [qyt];decide)];exact qi0 cs _ _ _
def MapI (W:World) (bm:Nat) (cells:List JE):Prop :=
 ∃ (es:Array MapEntry) (clock:Nat),W.heap[bm]? = some (.map es clock) ∧ ∀ e∈es.toList,∃ c:Int,(Lit.int .i64 c).wf=true∧e.key = .agg #[.int .i64 c]∧e.val = .agg #[.int .i64 (Yg.s cells c).1,.int .i64 (Yg.s cells c).2]
theorem MapI.lt {W:World} {bm:Nat} {cells:List JE} (h:MapI W bm cells):bm<W.heap.size:=by
 obtain ⟨es,clock,hb,_⟩:=h
 exact (Array.getElem?_eq_some_iff.1 hb).1
theorem MapI.keep {W W1:World} {bm:Nat} {cells:List JE} (h:MapI W bm cells) (hk:W1.heap[bm]? = W.heap[bm]?):MapI W1 bm cells:=by
 obtain ⟨es,clock,hb,hs⟩:=h
 exact ⟨es,clock,hk.trans hb,hs⟩
theorem quA (w:World):(zeroValue 136).run Try.prog w = .ok (.agg #[.int .i64 0,.int .i64 0]) w:=by kernel_rfl
theorem qqa {a b:Int} (h:(Value.agg #[.int .i64 a]) = .agg #[.int .i64 b]):a=b:=by
 injection h with h
 injection h with h
 injection h with h
 injection h
theorem MapI.look {W:World} {bm:Nat} {cells:List JE} (h:MapI W bm cells) {x:Int} (hx:(Lit.int .i64 x).wf=true) :
  ∃ (b:Bool) (a1 a2:Int),((b=false∧a1=0∧a2=0)∨(b=true∧a1=(Yg.s cells x).1∧a2=(Yg.s cells x).2)) ∧
   ∀ W1:World,W1.heap[bm]? = W.heap[bm]? → (Instr.lookup 140 (.map (some bm)) (.agg #[.int .i64 x]) true).run Try.prog W1 = .ok (.tuple #[.agg #[.int .i64 a1,.int .i64 a2],.bool b]) W1:=by
 obtain ⟨es,clock,hb,hs⟩:=h
 have hkey:=qiS hx
 have hks:∀ e∈es.toList,∃ l,keyOf Try.prog 139 e.key=some l:=fun e he=>by
  obtain ⟨c,hc,hk,_⟩:=hs e he
  exact ⟨_,by rw [hk];exact qiS hc⟩
 by_cases hex:∃ e∈es.toList,e.key = .agg #[.int .i64 x]
 ·
  refine ⟨true,(Yg.s cells x).1,(Yg.s cells x).2,.inr ⟨rfl,rfl,rfl⟩,fun W1 hW => ?_⟩
  have hb1:=hW.trans hb
  rcases qbv.find W1 hkey es.toList hks with ⟨h1,h2⟩|⟨j,e0,h1,h2,h3⟩
  ·
   obtain ⟨e,he,hk⟩:=hex
   exact absurd hk (h2 e he)
  ·
   have hm0:e0∈es.toList:=List.mem_of_getElem? h2
   obtain ⟨c,hc,hk,hv⟩:=hs e0 hm0
   have hcx:c=x:=qqa (hk.symm.trans h3)
   subst hcx
   simp [Instr.lookup,run_underlying Try.underlying140,MapKept.run_getObj_map hb1,qbv.check W1 _ hkey,h1,Result.andThen,hv]
 ·
  refine ⟨false,0,0,.inl ⟨rfl,rfl,rfl⟩,fun W1 hW => ?_⟩
  have hb1:=hW.trans hb
  rcases qbv.find W1 hkey es.toList hks with ⟨h1,h2⟩|⟨j,e0,h1,h2,h3⟩
  ·
   simp [Instr.lookup,run_underlying Try.underlying140,MapKept.run_getObj_map hb1,qbv.check W1 _ hkey,h1,Result.andThen,quA]
  ·
   exact absurd ⟨e0,List.mem_of_getElem? h2,h3⟩ hex
theorem MapI.store {W:World} {bm:Nat} {cells:List JE} (h:MapI W bm cells) {x:Int} (hx:(Lit.int .i64 x).wf=true) :
  ∃ W1,(Instr.mapUpdate 140 (.map (some bm)) (.agg #[.int .i64 x]) (.agg #[.int .i64 (Yg.s cells x).1,.int .i64 (Yg.s cells x).2])).run Try.prog W = .ok () W1∧MapI W1 bm cells∧W.grownBy W1 (some bm):=by
 obtain ⟨es,clock,hb,hs⟩:=h
 have hkey:=qiS hx
 have hks:∀ e∈es.toList,∃ l,keyOf Try.prog 139 e.key=some l:=fun e he=>by
  obtain ⟨c,hc,hk,_⟩:=hs e he
  exact ⟨_,by rw [hk];exact qiS hc⟩
 have hgr:∀ o,W.grownBy (ChangeMaps.setBlock W bm o) (some bm):=fun o=>⟨rfl,rfl,rfl,by simp [ChangeMaps.setBlock],fun i _ hi=>ChangeMaps.heap_setBlock_other hb _ (fun e=>hi (by rw [e]))⟩
 rcases qbv.find W hkey es.toList hks with ⟨h1,h2⟩|⟨j,e0,h1,h2,h3⟩
 ·
  refine ⟨ChangeMaps.setBlock W bm (.map (es.push ⟨.agg #[.int .i64 x],.agg #[.int .i64 (Yg.s cells x).1,.int .i64 (Yg.s cells x).2],clock⟩) (clock+1)),?_,⟨_,_,ChangeMaps.heap_setBlock_same hb _,fun e he => ?_⟩,hgr _⟩
  ·
   simp [Instr.mapUpdate,run_underlying Try.underlying140,MapKept.run_getObj_map hb,qbv.check W false hkey,h1,MapKept.run_setObj_map _ hb,Result.andThen,ChangeMaps.setBlock]
  ·
   simp only [Array.toList_push,List.mem_append,List.mem_singleton] at he
   rcases he with he|rfl
   ·
    exact hs e he
   ·
    exact ⟨x,hx,rfl,rfl⟩
 ·
  have hj:es[j]? = some e0:=by simpa using h2
  refine ⟨ChangeMaps.setBlock W bm (.map (es.modify j (fun e' => { e' with key:=.agg #[.int .i64 x],val:=.agg #[.int .i64 (Yg.s cells x).1,.int .i64 (Yg.s cells x).2] })) clock),?_,⟨_,_,ChangeMaps.heap_setBlock_same hb _,fun e he => ?_⟩,hgr _⟩
  ·
   simp [Instr.mapUpdate,run_underlying Try.underlying140,MapKept.run_getObj_map hb,qbv.check W false hkey,h1,hj,h3,qbv.stays W hkey,MapKept.run_setObj_map _ hb,Result.andThen,ChangeMaps.setBlock]
  ·
   rw [Array.toList_modify,ChangeMaps.modify_eq_set _ _ _ _ h2] at he
   rcases List.mem_or_eq_of_mem_set he with he|rfl
   ·
    exact hs e he
   ·
    exact ⟨x,hx,rfl,rfl⟩
theorem Um {P:Program} {ops:Array Oper} {rest:List Oper} {o:Oper} {a:Act} {Q:Exit→Act→World→Prop} {W:World} (hg:o.guard=none) (m x:Operand) (t:TypeId) (hop:o.op = .lookup t m x true) {vm vx v:Value} (hm:a.eval m=vm) (hx:a.eval x=vx)
  (hrun:(Instr.lookup t vm vx true).run P W = .ok v W) (h:wpList P ops Q rest (a.put o.dst v) W):wpList P ops Q (o::rest) a W:=by
 refine wpList_plain hg fun K' hK' => ?_
 unfold Oper.wp
 simp [execOp,hop,hm,hx,hrun,Result.andThen]
 exact hK' _ _ h
theorem qb3 {P:Program} {ops:Array Oper} {rest:List Oper} {o:Oper} {a:Act} {Q:Exit→Act→World→Prop} {W W1:World} (hg:o.guard=none) (m x y:Operand) (t:TypeId) (hop:o.op = .mapUpdate t m x y) {vm vx v:Value} (hm:a.eval m=vm) (hx:a.eval x=vx) (hy:a.eval y=v)
  (hrun:(Instr.mapUpdate t vm vx v).run P W = .ok () W1) (h:wpList P ops Q rest (a.put o.dst undef) W1):wpList P ops Q (o::rest) a W:=by
 refine wpList_plain hg fun K' hK' => ?_
 unfold Oper.wp
 simp [execOp,hop,hm,hx,hy,hrun,Result.andThen]
 exact hK' _ _ h
theorem qws (d:Nat) (w:World) (x0 y0:Int) :
  (Op.equalIn (d+2) 139 (.agg #[.int .i64 x0]) (.agg #[.int .i64 y0])).run Try.prog w = .ok (x0==y0) w:=by
 refine qqz Try.underlying139 (by kernel_rfl) ?_
 exact qj2 (by rfl) (by go_simp;rfl) (by go_simp;rfl) (by go_simp)
attribute [local go_sem high] qws
theorem qkP (x:Int) (cells:List JE) (i:Nat) (h:i<cells.length) (a b:Int):Yg.l x i (cells.drop i) a b=if (Go.bits .and .i64 (shr .i64 x (i:Int)) 1==1)=true then Yg.l x (i+1) (cells.drop (i+1)) (wrap64 (a+(O0 cells (i:Int)).f0)) (wrap64 (b+(O0 cells (i:Int)).f1)) else Yg.l x (i+1) (cells.drop (i+1)) a b:=by
 have e:O0 cells (i:Int)=cells[i]:=by simp [O0,List.getD_eq_getElem?_getD,List.getElem?_eq_getElem h]
 rw [List.drop_eq_getElem_cons h,e]
 rfl
set_option maxHeartbeats 4000000 in
set_option maxRecDepth 100000 in
theorem qeo.calls (A:Option Addr) (n c bm:Nat) (cells:List JE) (x:Int) (w:World) (hr:Kd.C qd0 w A cells.length cells) (hc:cells.length≤c) (hx:(Lit.int .i64 x).wf=true) (hm:MapI w bm cells) :
  Calls Try.prog 91 #[.agg #[.slice A cells.length c,.map (some bm)],.agg #[.int .i64 x]] w fun e w' =>
   e = .returned (.agg #[.int .i64 (Yg.s cells x).1,.int .i64 (Yg.s cells x).2])∧MapI w' bm cells∧Kept w w' (fun k=>k=bm)∧Below bm w w':=by
 obtain ⟨b,a1,a2,hcase,hrun⟩:=hm.look hx
 have qvs:=Try.underlying142
 have qvr:=Try.underlying139
 have qq4:=Try.underlying136
 have hlt:=hm.lt
 cases b with
 | true =>
  obtain ⟨rfl,rfl⟩:a1=(Yg.s cells x).1∧a2=(Yg.s cells x).2:=by simpa using hcase
  have HR:=Q0.mk hrun
  clear hrun hcase
  obtain ⟨s1,hs1⟩:∃ s1,(Yg.s cells x).1=s1:=⟨_,rfl⟩
  obtain ⟨s2,hs2⟩:∃ s2,(Yg.s cells x).2=s2:=⟨_,rfl⟩
  rw [hs1,hs2] at HR ⊢
  go_enter Try.func91,Try.ntmps91
  go_wp2_with (at_lookup;refine Um rfl _ _ 140 rfl rfl rfl (HR.out _ ?hw) ?_;(case hw=>exact (Q3 (Q3 (Q3 (Below.refl w.heap.size w) _) _) _).block bm hlt))
  refine bodyPost_ret (v:=.agg #[.int .i64 s1,.int .i64 s2]) (by simp [results,Try.results91,go_sem]) rfl ⟨rfl,?_⟩
  have hB:=Q3 (Q3 (Q3 (Q3 (Below.refl w.heap.size w) (.cells #[.slice A cells.length c,.map (some bm)] 142)) (.cells #[.int .i64 x] 139)) (.cells #[.int .i64 s1,.int .i64 s2] 136)) (.cells #[.int .i64 s1,.int .i64 s2] 136)
  exact ⟨hm.keep (hB.block bm hlt),Kept.of_below hB _,hB.mono (by omega)⟩
 | false =>
  obtain ⟨rfl,rfl⟩:a1=0∧a2=0:=by simpa using hcase
  have HR:=Q0.mk hrun
  have HM:=Q0.mk hm
  clear hrun hcase hm
  by_cases hx0:x=0
  ·
   subst hx0
   have hs1:(Yg.s cells 0).1=0:=by rw [Yg.s,qi0]
   have hs2:(Yg.s cells 0).2=0:=by rw [Yg.s,qi0]
   rw [hs1,hs2]
   go_enter Try.func91,Try.ntmps91
   go_wp2_with (at_lookup;refine Um rfl _ _ 140 rfl rfl rfl (HR.out _ ?hw) ?_;(case hw=>exact (Q3 (Q3 (Q3 (Below.refl w.heap.size w) _) _) _).block bm hlt))
   refine bodyPost_ret (v:=.agg #[.int .i64 0,.int .i64 0]) (by simp [results,Try.results91,go_sem]) rfl ⟨rfl,?_⟩
   have hB:=Q3 (Q3 (Q3 (Q3 (Below.refl w.heap.size w) (.cells #[.slice A cells.length c,.map (some bm)] 142)) (.cells #[.int .i64 0] 139)) (.cells #[.int .i64 0,.int .i64 0] 136)) (.cells #[.int .i64 0,.int .i64 0] 136)
   exact ⟨HM.out.keep (hB.block bm hlt),Kept.of_below hB _,hB.mono (by omega)⟩
  ·
   have hxb:(x==0)=false:=by simpa using hx0
   have HRd:=Q0.mk hr
   have hmx:cells.length≤9223372036854775807:=hr.2.1
   clear hr
   obtain ⟨sm,hsm⟩:∃ sm,Yg.s cells x=sm:=⟨_,rfl⟩
   have HSM:=Q0.mk hsm
   rw [hsm]
   clear hsm
   go_enter Try.func91,Try.ntmps91
   go_wp2_with (at_lookup;refine Um rfl _ _ 140 rfl rfl rfl (HR.out _ ?hw) ?_;(case hw=>exact (Q3 (Q3 (Q3 (Below.refl w.heap.size w) _) _) _).block bm hlt))
   go_loopg [26] cells.length (fun d v26 wr => ∃ (i:Nat),v26 = .int .i64 (i:Int)∧Q0 (i+d=cells.length)∧Q0 (∃ a b,wr.heap[w.heap.size+1+1+1]? = some (.cells #[.int .i64 a,.int .i64 b] 136 (0,0))∧Yg.l x i (cells.drop i) a b=sm) ∧
    Q0 (wr.heap[w.heap.size]? = some (.cells #[.slice A cells.length c,.map (some bm)] 142 (0,0))∧wr.heap[w.heap.size+1]? = some (.cells #[.int .i64 x] 139 (0,0))∧wr.heap[w.heap.size+1+1]? = some (.cells #[.int .i64 0,.int .i64 0] 136 (0,0)))∧Q0 (Below w.heap.size w wr))
   case atStart =>
    refine ⟨0,rfl,⟨by omega⟩,⟨0,0,?_,HSM.out⟩,⟨?_,?_,?_⟩,⟨Q3 (Q3 (Q3 (Q3 (Below.refl w.heap.size w) _) _) _) _⟩⟩
    ·
     have:=World.alloc_heap_new (((w.alloc (.cells #[.slice A cells.length c,.map (some bm)] 142)).alloc (.cells #[.int .i64 x] 139)).alloc (.cells #[.int .i64 0,.int .i64 0] 136)) (.cells #[.int .i64 0,.int .i64 0] 136)
     rwa [World.size_alloc,World.size_alloc,World.size_alloc] at this
    ·
     exact Q2 (Q2 (Q2 (World.alloc_heap_new w _) _) _) _
    ·
     refine Q2 (Q2 ?_ _) _;have:=World.alloc_heap_new (w.alloc (.cells #[.slice A cells.length c,.map (some bm)] 142)) (.cells #[.int .i64 x] 139)
     rwa [World.size_alloc] at this
    ·
     refine Q2 ?_ _;have:=World.alloc_heap_new ((w.alloc (.cells #[.slice A cells.length c,.map (some bm)] 142)).alloc (.cells #[.int .i64 x] 139)) (.cells #[.int .i64 0,.int .i64 0] 136)
     rwa [World.size_alloc,World.size_alloc] at this
   case round =>
    obtain ⟨i,rfl,HD,HN,HK,HB⟩:=hrel;obtain ⟨a,b,hn,hl⟩:=HN.out;obtain ⟨hb0,hb1,hb2⟩:=HK.out;have qHx:wr.cell? ⟨w.heap.size,0,none⟩=some (.slice A cells.length c):=(Q9 hb0 0).trans rfl;have qHy:wr.cell? ⟨w.heap.size,1,none⟩=some (.map (some bm)):=(Q9 hb0 1).trans rfl;have hc1:wr.cell? ⟨w.heap.size+1,0,none⟩=some (.int .i64 x):=(Q9 hb1 0).trans rfl;have qHz:wr.cell? ⟨w.heap.size+1+1,0,none⟩=some (.int .i64 0):=(Q9 hb2 0).trans rfl;have hc21:wr.cell? ⟨w.heap.size+1+1,1,none⟩=some (.int .i64 0):=(Q9 hb2 1).trans rfl;have qHD:=Q8 hb2 0;have qHE:=Q8 hb2 1;have qKL:wr.cell? ⟨w.heap.size+1+1+1,0,none⟩=some (.int .i64 a):=(Q9 hn 0).trans rfl;have hc31:wr.cell? ⟨w.heap.size+1+1+1,1,none⟩=some (.int .i64 b):=(Q9 hn 1).trans rfl;have qKT:=Q8 hn 0;have qKU:=Q8 hn 1;have hlw:=QT hn;have hbx:∃ W,W=wr:=⟨_,rfl⟩;have HN':=Q0.mk hn;have HL:=Q0.mk hl;have HB0:=Q0.mk hb0;have HB1:=Q0.mk hb1;have HB2:=Q0.mk hb2;clear hn hl hb0 hb1 hb2 hbx HN HK
    by_cases hi:i<cells.length
    ·
     obtain ⟨d,rfl⟩:∃ d,gk=d+1:=⟨gk-1,by have:=HD.out;omega⟩;obtain ⟨ad,ea,hx0',qq5⟩:=qnf HRd.out (i:Int) (by omega) (by omega);subst ea;replace hx0':=(HB.out.cell (World.block_lt_of_cell? w _ hx0')).trans hx0';replace qq5:=(HB.out.cell (World.block_lt_of_cell? w _ qq5)).trans qq5;rw [Int.toNat_natCast] at hx0' qq5;have hst:=qkP x cells i hi a b;obtain ⟨ji4,qtN⟩:∃ j_:Int,(shr .i64 x (i:Int))=j_:=⟨_,rfl⟩;rw [qtN] at hst;have hji4_:(x / 2 ^ min ((i:Int)).toNat 64)=ji4:=qtN;have hji4z:(i:Int)≤64→(x / 2 ^ ((i:Int)).toNat)=ji4:=qo3 qtN;rw [Int.toNat_natCast] at hji4_ hji4z;clear qtN;obtain ⟨e0,he0⟩:∃ e0,(O0 cells (i:Int)).f0=e0:=⟨_,rfl⟩;obtain ⟨e1,he1⟩:∃ e1,(O0 cells (i:Int)).f1=e1:=⟨_,rfl⟩;rw [he0,he1] at hst;rw [he0] at hx0';rw [he1] at qq5;clear he0 he1;have hBa:=Q3 (Below.refl wr.heap.size wr) (.cells #[.int .i64 e0,.int .i64 e1] 136);have HBa:=Q0.mk hBa;have ha1:(wr.alloc (.cells #[.int .i64 e0,.int .i64 e1] 136)).cell? ⟨w.heap.size+1,0,none⟩=some (.int .i64 x):=(Q9 (Qg HB1.out hBa) 0).trans rfl;have qKE:(wr.alloc (.cells #[.int .i64 e0,.int .i64 e1] 136)).cell? ⟨w.heap.size+1+1+1,0,none⟩=some (.int .i64 a):=(Q9 (Qg HN'.out hBa) 0).trans rfl;have qKF:(wr.alloc (.cells #[.int .i64 e0,.int .i64 e1] 136)).cell? ⟨w.heap.size+1+1+1,1,none⟩=some (.int .i64 b):=(Q9 (Qg HN'.out hBa) 1).trans rfl;have qIZ:=Q8 (Qg HN'.out hBa) 0;have qI0:=Q8 (Qg HN'.out hBa) 1;clear hBa qHx qHy qHz hc21 qHD qHE
     by_cases hbit:(Go.bits .and .i64 ji4 1==1)=true
     ·
      rw [if_pos hbit] at hst;have HL2:=Q0.mk (hst.symm.trans HL.out);clear hst
      go_wp2
      go_roundg d
      case measure=>omega
      case rel =>
       refine ⟨i+1,by simp,⟨by have:=HD.out;omega⟩,⟨_,_,Q2 (QI (QI HN'.out 0 _ rfl) 1 _ rfl) _,HL2.out⟩,⟨?_,?_,?_⟩,⟨Q3 (Q5 (Q5 HB.out (by omega)) (by omega)) _⟩⟩
       ·
        exact Q2 (Qr (Qr HB0.out (p:=⟨w.heap.size+1+1+1,0,none⟩) (by simp;omega) _) (p:=⟨w.heap.size+1+1+1,1,none⟩) (by simp;omega) _) _
       ·
        exact Q2 (Qr (Qr HB1.out (p:=⟨w.heap.size+1+1+1,0,none⟩) (by simp) _) (p:=⟨w.heap.size+1+1+1,1,none⟩) (by simp) _) _
       ·
        exact Q2 (Qr (Qr HB2.out (p:=⟨w.heap.size+1+1+1,0,none⟩) (by simp) _) (p:=⟨w.heap.size+1+1+1,1,none⟩) (by simp) _) _
     ·
      replace hbit:=Bool.eq_false_iff.mpr hbit;rw [if_neg (by rw [hbit];decide)] at hst;have HL2:=Q0.mk (hst.symm.trans HL.out);clear hst
      go_wp2
      go_roundg d
      case measure=>omega
      case rel =>
       exact ⟨i+1,by simp,⟨by have:=HD.out;omega⟩,⟨_,_,Q2 HN'.out _,HL2.out⟩,⟨Q2 HB0.out _,Q2 HB1.out _,Q2 HB2.out _⟩,⟨Q3 HB.out _⟩⟩
    ·
     have hil:i=cells.length:=by have:=HD.out;omega
     subst hil
     have hfin:(a,b)=sm:=by
      have h5:=HL.out;rw [List.drop_length] at h5
      exact h5
     have qGO:=Q0.mk (show Yg.s cells x=(a,b) by rw [hfin];exact HSM.out);subst hfin;clear HL HSM;obtain ⟨W1,qq1,hm1,hg1⟩:=(HM.out.keep (HB.out.block bm hlt)).store hx;rw [qGO.out] at qq1
     have hne:∀ k,w.heap.size≤k→some k≠some bm:=fun k hk e=>by injection e with e;omega
     have kp:∀ {g:Nat} {o:Obj},w.heap.size≤g→wr.heap[g]? = some o→W1.heap[g]? = some o:=fun {g o} hg ho=>(hg1.block g (Array.getElem?_eq_some_iff.1 ho).1 (hne g hg)).trans ho
     have qKQ:W1.cell? ⟨w.heap.size+1+1+1,0,none⟩=some (.int .i64 a):=(Q9 (kp (by omega) HN'.out) 0).trans rfl;have hd31:W1.cell? ⟨w.heap.size+1+1+1,1,none⟩=some (.int .i64 b):=(Q9 (kp (by omega) HN'.out) 1).trans rfl;have qKO:W1.cell? ⟨w.heap.size+1+1,0,none⟩=some (.int .i64 0):=(Q9 (kp (by omega) HB2.out) 0).trans rfl;have qKP:W1.cell? ⟨w.heap.size+1+1,1,none⟩=some (.int .i64 0):=(Q9 (kp (by omega) HB2.out) 1).trans rfl;have qI2:=Q8 (kp (by omega) HB2.out) 0;have qI3:=Q8 (kp (by omega) HB2.out) 1;have HG1:=Q0.mk hg1;have HM1:=Q0.mk hm1;have HRU:=Q0.mk qq1;have HF2:=Q0.mk (kp (by omega) HB2.out);clear hg1 hm1 qq1 kp hne
     go_wp2_with (at_mapUpdate;refine qb3 rfl _ _ _ 140 rfl rfl rfl rfl HRU.out ?_)
     refine bodyPost_ret (v:=.agg #[.int .i64 a,.int .i64 b]) ?_ rfl ⟨rfl,?_⟩
     ·
      refine (results_cell_row rfl _ _ (w.heap.size+1+1) 136 #[.int .i64 a,.int .i64 b] (0,0) _ rfl (QI (QI HF2.out 0 _ rfl) 1 _ rfl) Try.underlying136 rfl (by kernel_rfl))
     ·
      have hK1:Kept w W1 (fun k=>k=bm):=(Kept.of_below HB.out _).of_grown HG1.out (fun k e => .inl (by cases e;rfl));have hB1:Below bm w W1:=(HB.out.mono (by omega)).grown HG1.out (by omega) (fun k e=>by cases e;omega);refine ⟨HM1.out.keep ?_,?_,?_⟩
      ·
       exact (Below.heap_setCell _ _ _ bm (by simp;omega)).trans (Below.heap_setCell _ _ _ bm (by simp;omega))
      ·
       exact (hK1.setCell (.inr (by simp;omega)) _).setCell (.inr (by simp;omega)) _
      ·
       exact Below.setCell (Below.setCell hB1 (p:=⟨w.heap.size+1+1,0,none⟩) (by show bm≤w.heap.size+1+1;omega) _) (p:=⟨w.heap.size+1+1,1,none⟩) (by show bm≤w.heap.size+1+1;omega) _
end Go.Proofs.Ytmhomdohhihlcaa.P
