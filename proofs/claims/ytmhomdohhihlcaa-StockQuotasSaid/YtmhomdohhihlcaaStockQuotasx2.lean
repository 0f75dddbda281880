/- What the statement StockQuotas leans on, part 3 of 6: contracts of the program's functions; conditions: none. -/
import Derived.Test.YtmhomdohhihlcaaStockQuotasx0
import Derived.Test.YtmhomdohhihlcaaStockQuotasx1
set_option linter.unusedVariables false
set_option linter.unusedSimpArgs false
set_option linter.constructorNameAsVariable false
set_option linter.unusedSectionVars false
namespace Go.Proofs.Ytmhomdohhihlcaa.P
open Go.RowKit Go.Proofs.YtmhomdohhihlcaaW.PrintWords Go.Proofs.YtmhomdohhihlcaaW.PrintLast Go.Proofs.YtmhomdohhihlcaaW.PrintMore
section
attribute [local go_sem] YC YE Z2 Z3 Yr Ys YD YF
mutual
def Qb.j0:Nat→Bool→List (S39)→List Int→List (List (List Int))→Option (Int)
 | 0,_,_,_,_=>none
 | k+1,x3,Jg,Gw,Ju=>Qb.l0 k x3 0 Jg Gw Ju
def Qb.j2:Nat→Bool→List (S39)→List Int→List (List (List Int))→Option (Int)
 | 0,_,_,_,_=>none
 | k+1,x3,Jg,Gw,Ju=>Qb.l1 k x3 0 Jg Gw Ju
def Qb.l1:Nat→Bool→Int→List (S39)→List Int→List (List (List Int))→Option (Int)
 | 0,_,_,_,_,_=>none
 | k+1,x3,x5,Jg,Gw,Ju=>if x3=true then (Qb.j4 k x3 x5 (decide (x5<(Ju.length:Int))) Jg Gw Ju) else (Qb.j4 k x3 x5 false Jg Gw Ju)
def Qb.j4:Nat→Bool→Int→Bool→List (S39)→List Int→List (List (List Int))→Option (Int)
 | 0,_,_,_,_,_,_=>none
 | k+1,x3,x5,x53,Jg,Gw,Ju=>if x53=true then (if 0≤x5 then (if x5<(Ju.length:Int) then (Qb.l2 k (((QE Ju x5).length:Int)==(Jg.length:Int)) x5 0 Jg Gw Ju) else (none)) else (none)) else (if x3=true then (some 0) else (some 93))
def Qb.l2:Nat→Bool→Int→Int→List (S39)→List Int→List (List (List Int))→Option (Int)
 | 0,_,_,_,_,_,_=>none
 | k+1,x3,x5,x6,Jg,Gw,Ju=>if x3=true then (Qb.j6 k x3 x5 x6 (decide (x6<(Jg.length:Int))) Jg Gw Ju) else (Qb.j6 k x3 x5 x6 false Jg Gw Ju)
def Qb.j6:Nat→Bool→Int→Int→Bool→List (S39)→List Int→List (List (List Int))→Option (Int)
 | 0,_,_,_,_,_,_,_=>none
 | k+1,x3,x5,x6,x73,Jg,Gw,Ju=>if x73=true then (if 0≤x5 then (if x5<(Ju.length:Int) then (if 0≤x6 then (if x6<((QE Ju x5).length:Int) then ((Yw.f Jg Gw Ju).bind fun qjy=>((QS.f k (Ya (QE Ju x5) x6) qjy 100000).bind fun qfc=>(Qb.l2 k qfc x5 (wrap64 (x6+1)) Jg Gw Ju))) else (none)) else (none)) else (none)) else (none)) else (Qb.l1 k x3 (wrap64 (x5+1)) Jg Gw Ju)
def Qb.l0:Nat→Bool→Int→List (S39)→List Int→List (List (List Int))→Option (Int)
 | 0,_,_,_,_,_=>none
 | k+1,x3,x4,Jg,Gw,Ju=>if x3=true then (if x4<(Jg.length:Int) then (if 0≤x4 then ((Qm.f k ((Qd Jg x4).f0) ((Qd Jg x4).f1) ((Qd Jg x4).f2) ((Qd Jg x4).f3) ((Qd Jg x4).f4)).bind fun qhm=>(Qb.l0 k qhm (wrap64 (x4+1)) Jg Gw Ju)) else (none)) else (Qb.j2 k x3 Jg Gw Ju)) else (Qb.j2 k x3 Jg Gw Ju)
end
def Qb.f (k:Nat) (Qa:List (S39)) (Qe:List Int) (Qc:List (List (List Int))):Option (Int):=(Qq.f (Qa.length:Int) 1 3).bind fun qn0=>(if qn0=true then ((QS.f k Qe (Qa.length:Int) 100).bind fun qfF=>(if qfF=true then ((Qq.f (Qc.length:Int) 1 6).bind fun qcZ=>(if qcZ=true then ((Yw.f Qa Qe Qc).bind fun qaf=>((Qq.f qaf 1 10).bind fun Xd=>(Qb.j0 k Xd Qa Qe Qc))) else (Qb.j0 k false Qa Qe Qc))) else (Qb.j0 k false Qa Qe Qc))) else (Qb.j0 k false Qa Qe Qc))
def Qb.T9:Bool × List (List Nat × List Nat):=(true,[([],[]),([0],[0]),([],[]),([1,2],[1,2]),([3],[3]),([4],[4]),([],[]),([6],[6]),([7],[7]),([5,8],[5,8]),([9,0,1,2,3,4,5,6,7,8,9],[9])])
def Qb.B9:List Nat:=[0,1,0,7,15,31,0,64,192,511,1023]
theorem Qb.tab9:rtab .any (qaz Try.f31 9)=Qb.T9:=by kernel_rfl
theorem Qb.bits9:Kr Qb.T9.2 Qb.B9=true:=by kernel_rfl
def Qb.T13:Bool × List (List Nat × List Nat):=(true,[([],[]),([0],[0]),([],[]),([1,2],[1,2]),([3],[3]),([],[]),([4,5],[4,5]),([6],[6]),([],[]),([8],[8]),([7,9,9],[7,9]),([10,10,0,1,2,3,4,5,6,7,8,9,10],[10])])
def Qb.B13:List Nat:=[0,1,0,7,15,0,63,127,0,256,1023,2047]
theorem Qb.tab13:rtab .any (qaz Try.f31 13)=Qb.T13:=by kernel_rfl
theorem Qb.bits13:Kr Qb.T13.2 Qb.B13=true:=by kernel_rfl
set_option maxHeartbeats 8000000 in
set_option maxRecDepth 100000 in
theorem Qb.calls (k:Nat) (Qy:Option Addr) (Qr:Nat) (Qa:List (S39)) (Qv:Option Addr) (Qs:Nat) (Qe:List Int) (Qz:Option Addr) (Qt:Nat) (Qc:List (List (List Int))) (r:Int) (w:World) (ZR:Kd.C k39 w Qy Qa.length Qa) (ZW:Qa.length≤Qr) (ZL:Kd.C (Kd.int .i64) w Qv Qe.length Qe) (ZO:Qe.length≤Qs) (ZM:Kd.C (Kd.slice 37 (Kd.slice 3 (Kd.int .i64))) w Qz Qc.length Qc) (ZP:Qc.length≤Qt) (h:Qb.f k Qa Qe Qc=some r) :
  Calls Try.prog 31 #[.agg #[.slice Qy Qa.length Qr,.slice Qv Qe.length Qs,.slice Qz Qc.length Qt]] w fun e w'=>e = .returned (.int .i64 r)∧Below w.heap.size w w':=by
 have qgO:=Try.underlying47
 have qeZ:=Try.underlying39
 have Z1:=Q1.mk ZR
 have Zh:=Q1.mk ZW
 clear ZR ZW
 have Z0:=Q1.mk ZL
 have Z9:=Q1.mk ZO
 clear ZL ZO
 have YV:=Q1.mk ZM
 have Zd:=Q1.mk ZP
 clear ZM ZP
 have HB:=Q1.mk (Below.refl w.heap.size w)
 have H:((Qq.f (Qa.length:Int) 1 3).bind fun qn0=>(if qn0=true then ((QS.f k Qe (Qa.length:Int) 100).bind fun qfF=>(if qfF=true then ((Qq.f (Qc.length:Int) 1 6).bind fun qcZ=>(if qcZ=true then ((Yw.f Qa Qe Qc).bind fun qaf=>((Qq.f qaf 1 10).bind fun Xd=>(Qb.j0 k Xd Qa Qe Qc))) else (Qb.j0 k false Qa Qe Qc))) else (Qb.j0 k false Qa Qe Qc))) else (Qb.j0 k false Qa Qe Qc)))=some r:=h
 clear h
 have HC2:=Q1.mk H
 clear H
 go_enter Try.func31,Try.ntmps31
 go_upto_region 1 with (first|((with_reducible refine QR (N:=1) rfl ?_);(try (refine Gr (by rfl) ?_;dsimp only));refine Yf ?hg (N:=1) ?hd (cs:=#[.slice Qy Qa.length Qr,.slice Qv Qe.length Qs,.slice Qz Qc.length Qt]) (t:=47) ?hr ?_;(case hd=>rfl);(case hg=>rfl);(case hr=>first|(go_simp;done)|(go_simp;rfl));intro Jx hg w3 hbox hb;have n0_:=Q1.mk (Qi (by repeat (first|(with_reducible first|exact HB.out|apply Q2|apply Q0|apply Q3)|exact HB.out)) hb);have n1_:=Q1.mk (hbox);have n2_:=Q1.mk ((by rw [hg];exact (Qf (by repeat (first|(with_reducible first|exact HB.out|apply Q2|apply Q0|apply Q3)|exact HB.out))):w.heap.size≤Jx));have n3_:=n2_;clear HB;have HB:=n0_;have Yy:=n1_;have qHn:=n2_;have Ka:=n3_;clear n0_ n1_ n2_ n3_ hb hbox hg))
 (try simp only [Act.put,List.setIfInBounds_toArray,List.set_cons_zero,List.set_cons_succ])
 go_cut [3] (fun v3 wc => ∃ (kq:Nat) (qhx:Bool),v3 = .bool qhx∧Q1 (Qb.j0 kq qhx Qa Qe Qc=some r)∧Q1 (kq≤k)∧Q1 (wc.heap[Jx]? = some (.cells #[(.slice Qy Qa.length Qr),(.slice Qv Qe.length Qs),(.slice Qz Qc.length Qt)] 47 (0,0)))∧Q1 (Below w.heap.size w wc))
 case first =>
  have H:=HC2.out
  clear HC2
  replace H:=Option.bind_eq_some_iff.mp H
  obtain ⟨qn0,A40,H⟩:=H
  replace H:(if qn0=true then ((QS.f k Qe (Qa.length:Int) 100).bind fun qfF=>(if qfF=true then ((Qq.f (Qc.length:Int) 1 6).bind fun qcZ=>(if qcZ=true then ((Yw.f Qa Qe Qc).bind fun qaf=>((Qq.f qaf 1 10).bind fun Xd=>(Qb.j0 k Xd Qa Qe Qc))) else (Qb.j0 k false Qa Qe Qc))) else (Qb.j0 k false Qa Qe Qc))) else (Qb.j0 k false Qa Qe Qc))=some r:=H
  have A4:=Q1.mk A40
  clear A40
  by_cases c5:qn0=true
  ·
   subst c5
   have H1:((QS.f k Qe (Qa.length:Int) 100).bind fun qfF=>(if qfF=true then ((Qq.f (Qc.length:Int) 1 6).bind fun qcZ=>(if qcZ=true then ((Yw.f Qa Qe Qc).bind fun qaf=>((Qq.f qaf 1 10).bind fun Xd=>(Qb.j0 k Xd Qa Qe Qc))) else (Qb.j0 k false Qa Qe Qc))) else (Qb.j0 k false Qa Qe Qc)))=some r:=by rw [if_pos rfl] at H;exact H
   clear H
   have H:=H1
   clear H1
   replace H:=Option.bind_eq_some_iff.mp H
   obtain ⟨qfF,A60,H⟩:=H
   replace H:(if qfF=true then ((Qq.f (Qc.length:Int) 1 6).bind fun qcZ=>(if qcZ=true then ((Yw.f Qa Qe Qc).bind fun qaf=>((Qq.f qaf 1 10).bind fun Xd=>(Qb.j0 k Xd Qa Qe Qc))) else (Qb.j0 k false Qa Qe Qc))) else (Qb.j0 k false Qa Qe Qc))=some r:=H
   have A6:=Q1.mk A60
   clear A60
   by_cases c7:qfF=true
   ·
    subst c7
    have H1:((Qq.f (Qc.length:Int) 1 6).bind fun qcZ=>(if qcZ=true then ((Yw.f Qa Qe Qc).bind fun qaf=>((Qq.f qaf 1 10).bind fun Xd=>(Qb.j0 k Xd Qa Qe Qc))) else (Qb.j0 k false Qa Qe Qc)))=some r:=by rw [if_pos rfl] at H;exact H
    clear H;have H:=H1;clear H1;replace H:=Option.bind_eq_some_iff.mp H;obtain ⟨qcZ,A80,H⟩:=H;replace H:(if qcZ=true then ((Yw.f Qa Qe Qc).bind fun qaf=>((Qq.f qaf 1 10).bind fun Xd=>(Qb.j0 k Xd Qa Qe Qc))) else (Qb.j0 k false Qa Qe Qc))=some r:=H;have A8:=Q1.mk A80;clear A80
    by_cases c9:qcZ=true
    ·
     subst c9
     have H1:((Yw.f Qa Qe Qc).bind fun qaf=>((Qq.f qaf 1 10).bind fun Xd=>(Qb.j0 k Xd Qa Qe Qc)))=some r:=by rw [if_pos rfl] at H;exact H
     clear H;have H:=H1;clear H1;replace H:=Option.bind_eq_some_iff.mp H;obtain ⟨qaf,qhN,H⟩:=H;replace H:((Qq.f qaf 1 10).bind fun Xd=>(Qb.j0 k Xd Qa Qe Qc))=some r:=H;have A10:=Q1.mk qhN;clear qhN;replace H:=Option.bind_eq_some_iff.mp H;obtain ⟨Xd,qey,H⟩:=H;replace H:(Qb.j0 k Xd Qa Qe Qc)=some r:=H;have A11:=Q1.mk qey;clear qey;have H':=Q1.mk H;clear H;have Gl:w3.cell? ⟨Jx,0,none⟩=some (.slice Qy Qa.length Qr):=(Q6 Yy.out 0).trans rfl;have Gm:w3.cell? ⟨Jx,1,none⟩=some (.slice Qv Qe.length Qs):=(Q6 Yy.out 1).trans rfl;have Gt:w3.cell? ⟨Jx,2,none⟩=some (.slice Qz Qc.length Qt):=(Q6 Yy.out 2).trans rfl;have Gn:=Q8 Yy.out 0;have Gp:=Q8 Yy.out 1;have Gu:=Q8 Yy.out 2
     go_wp2_with (first|((with_reducible refine Qu (f:=34) rfl ?_);refine Yk (some 10) rfl rfl Try.func34 (by kernel_rfl) rfl #[.int .i64 (Qa.length:Int),.int .i64 1,.int .i64 3] rfl (by (try simp only [List.map_toArray,List.map_cons,List.map_nil]);first|done|rfl|(simp only [List.length_drop,List.length_take];rfl)) ?_;(with_reducible refine (Qq.calls (Qa.length:Int) 1 3 true _ A4.out).mono ?_);rintro e w' ⟨rfl,⟨nd,rfl⟩⟩;refine ⟨_,rfl,?_⟩)|(go_at_call 80;(with_reducible refine (QS.calls k _ _ Qe (Qa.length:Int) 100 true _ ?side1 ?side2 A6.out).mono ?_);(case side1=>repeat (first|exact (Kd.C_below Z0.out (by repeat (first|(with_reducible first|exact HB.out|apply Q2|apply Q0|apply Q3|refine Q7 ?_ Ka.out)|exact HB.out)))|(with_reducible refine Kd.C_alloc ?_ _)|(with_reducible refine Kd.C_drewN ?_ _)|(with_reducible refine Kd.C_drew ?_)));(case side2=>exact Z9.out);rintro e w' ⟨rfl,⟨nd,rfl⟩⟩)|(go_at_call 34;(with_reducible refine (Qq.calls (Qc.length:Int) 1 6 true _ A8.out).mono ?_);rintro e w' ⟨rfl,⟨nd,rfl⟩⟩)|(go_at_call 84;(with_reducible refine (Yw.calls _ _ Qa _ _ Qe _ _ Qc qaf _ ?side1 ?side2 ?side3 ?side4 ?side5 ?side6 A10.out).mono ?_);(case side1=>repeat (first|exact (Kd.C_below Z1.out (by repeat (first|(with_reducible first|exact HB.out|apply Q2|apply Q0|apply Q3|refine Q7 ?_ Ka.out)|exact HB.out)))|(with_reducible refine Kd.C_alloc ?_ _)|(with_reducible refine Kd.C_drewN ?_ _)|(with_reducible refine Kd.C_drew ?_)));(case side2=>exact Zh.out);(case side3=>repeat (first|exact (Kd.C_below Z0.out (by repeat (first|(with_reducible first|exact HB.out|apply Q2|apply Q0|apply Q3|refine Q7 ?_ Ka.out)|exact HB.out)))|(with_reducible refine Kd.C_alloc ?_ _)|(with_reducible refine Kd.C_drewN ?_ _)|(with_reducible refine Kd.C_drew ?_)));(case side4=>exact Z9.out);(case side5=>repeat (first|exact (Kd.C_below YV.out (by repeat (first|(with_reducible first|exact HB.out|apply Q2|apply Q0|apply Q3|refine Q7 ?_ Ka.out)|exact HB.out)))|(with_reducible refine Kd.C_alloc ?_ _)|(with_reducible refine Kd.C_drewN ?_ _)|(with_reducible refine Kd.C_drew ?_)));(case side6=>exact Zd.out);rintro e w13 ⟨rfl,hb⟩;have n0_:=Q1.mk (Qg (g:=Jx) (by (with_reducible repeat (first|refine Q5 ?_ _|refine Q9 ?_|refine Q4 ?_ _));exact Yy.out) hb);have n1_:=Q1.mk (Qi (by repeat (first|(with_reducible first|exact HB.out|apply Q2|apply Q0|apply Q3|refine Q7 ?_ Ka.out)|exact HB.out)) hb);clear Yy HB;have Yy:=n0_;have HB:=n1_;clear n0_ n1_;(try clear hb);(try clear hb2);(try clear hk);(try clear hi))|(go_at_call 34;(with_reducible refine (Qq.calls qaf 1 10 Xd _ A11.out).mono ?_);rintro e w' ⟨rfl,⟨nd,rfl⟩⟩))
     go_meet
     case rel=>exact ⟨_,(Xd),(by first|rfl|(simp;done)|(simp [*];done)),H',⟨by first|omega|exact Nat.le_refl _⟩,⟨by (with_reducible repeat (first|refine Q5 ?_ _|refine Q9 ?_|refine Q4 ?_ _));exact Yy.out⟩,⟨by repeat (first|(with_reducible first|exact HB.out|apply Q2|apply Q0|apply Q3|refine Q7 ?_ Ka.out)|exact HB.out)⟩⟩
    replace c9:=Bool.eq_false_iff.mpr c9;subst c9
    have H1:(Qb.j0 k false Qa Qe Qc)=some r:=by rw [if_neg (show ¬ (false=true) by decide)] at H;exact H
    clear H;have H:=H1;clear H1;have H':=Q1.mk H;clear H;have JL:w3.cell? ⟨Jx,0,none⟩=some (.slice Qy Qa.length Qr):=(Q6 Yy.out 0).trans rfl;have JM:w3.cell? ⟨Jx,1,none⟩=some (.slice Qv Qe.length Qs):=(Q6 Yy.out 1).trans rfl;have JN:w3.cell? ⟨Jx,2,none⟩=some (.slice Qz Qc.length Qt):=(Q6 Yy.out 2).trans rfl;have JO:=Q8 Yy.out 0;have JP:=Q8 Yy.out 1;have JQ:=Q8 Yy.out 2
    go_wp2_with (first|((with_reducible refine Qu (f:=34) rfl ?_);refine Yk (some 10) rfl rfl Try.func34 (by kernel_rfl) rfl #[.int .i64 (Qa.length:Int),.int .i64 1,.int .i64 3] rfl (by (try simp only [List.map_toArray,List.map_cons,List.map_nil]);first|done|rfl|(simp only [List.length_drop,List.length_take];rfl)) ?_;(with_reducible refine (Qq.calls (Qa.length:Int) 1 3 true _ A4.out).mono ?_);rintro e w' ⟨rfl,⟨nd,rfl⟩⟩;refine ⟨_,rfl,?_⟩)|(go_at_call 80;(with_reducible refine (QS.calls k _ _ Qe (Qa.length:Int) 100 true _ ?side1 ?side2 A6.out).mono ?_);(case side1=>repeat (first|exact (Kd.C_below Z0.out (by repeat (first|(with_reducible first|exact HB.out|apply Q2|apply Q0|apply Q3|refine Q7 ?_ Ka.out)|exact HB.out)))|(with_reducible refine Kd.C_alloc ?_ _)|(with_reducible refine Kd.C_drewN ?_ _)|(with_reducible refine Kd.C_drew ?_)));(case side2=>exact Z9.out);rintro e w' ⟨rfl,⟨nd,rfl⟩⟩)|(go_at_call 34;(with_reducible refine (Qq.calls (Qc.length:Int) 1 6 false _ A8.out).mono ?_);rintro e w' ⟨rfl,⟨nd,rfl⟩⟩))
    go_meet
    case rel=>exact ⟨_,(false),(by first|rfl|(simp;done)|(simp [*];done)),H',⟨by first|omega|exact Nat.le_refl _⟩,⟨by (with_reducible repeat (first|refine Q5 ?_ _|refine Q9 ?_|refine Q4 ?_ _));exact Yy.out⟩,⟨by repeat (first|(with_reducible first|exact HB.out|apply Q2|apply Q0|apply Q3|refine Q7 ?_ Ka.out)|exact HB.out)⟩⟩
   replace c7:=Bool.eq_false_iff.mpr c7
   subst c7
   have H1:(Qb.j0 k false Qa Qe Qc)=some r:=by rw [if_neg (show ¬ (false=true) by decide)] at H;exact H
   clear H
   have H:=H1
   clear H1
   have H':=Q1.mk H
   clear H
   have Jq:w3.cell? ⟨Jx,0,none⟩=some (.slice Qy Qa.length Qr):=(Q6 Yy.out 0).trans rfl
   have Jr:w3.cell? ⟨Jx,1,none⟩=some (.slice Qv Qe.length Qs):=(Q6 Yy.out 1).trans rfl
   have JF:w3.cell? ⟨Jx,2,none⟩=some (.slice Qz Qc.length Qt):=(Q6 Yy.out 2).trans rfl
   have Js:=Q8 Yy.out 0
   have Jt:=Q8 Yy.out 1
   have JG:=Q8 Yy.out 2
   go_wp2_with (first|((with_reducible refine Qu (f:=34) rfl ?_);refine Yk (some 10) rfl rfl Try.func34 (by kernel_rfl) rfl #[.int .i64 (Qa.length:Int),.int .i64 1,.int .i64 3] rfl (by (try simp only [List.map_toArray,List.map_cons,List.map_nil]);first|done|rfl|(simp only [List.length_drop,List.length_take];rfl)) ?_;(with_reducible refine (Qq.calls (Qa.length:Int) 1 3 true _ A4.out).mono ?_);rintro e w' ⟨rfl,⟨nd,rfl⟩⟩;refine ⟨_,rfl,?_⟩)|(go_at_call 80;(with_reducible refine (QS.calls k _ _ Qe (Qa.length:Int) 100 false _ ?side1 ?side2 A6.out).mono ?_);(case side1=>repeat (first|exact (Kd.C_below Z0.out (by repeat (first|(with_reducible first|exact HB.out|apply Q2|apply Q0|apply Q3|refine Q7 ?_ Ka.out)|exact HB.out)))|(with_reducible refine Kd.C_alloc ?_ _)|(with_reducible refine Kd.C_drewN ?_ _)|(with_reducible refine Kd.C_drew ?_)));(case side2=>exact Z9.out);rintro e w' ⟨rfl,⟨nd,rfl⟩⟩))
   go_meet
   case rel=>exact ⟨_,(false),(by first|rfl|(simp;done)|(simp [*];done)),H',⟨by first|omega|exact Nat.le_refl _⟩,⟨by (with_reducible repeat (first|refine Q5 ?_ _|refine Q9 ?_|refine Q4 ?_ _));exact Yy.out⟩,⟨by repeat (first|(with_reducible first|exact HB.out|apply Q2|apply Q0|apply Q3|refine Q7 ?_ Ka.out)|exact HB.out)⟩⟩
  replace c5:=Bool.eq_false_iff.mpr c5
  subst c5
  have H1:(Qb.j0 k false Qa Qe Qc)=some r:=by rw [if_neg (show ¬ (false=true) by decide)] at H;exact H
  clear H
  have H:=H1
  clear H1
  have H':=Q1.mk H
  clear H
  have O3:w3.cell? ⟨Jx,0,none⟩=some (.slice Qy Qa.length Qr):=(Q6 Yy.out 0).trans rfl
  have O4:w3.cell? ⟨Jx,1,none⟩=some (.slice Qv Qe.length Qs):=(Q6 Yy.out 1).trans rfl
  have O5:w3.cell? ⟨Jx,2,none⟩=some (.slice Qz Qc.length Qt):=(Q6 Yy.out 2).trans rfl
  have O9:=Q8 Yy.out 0
  have Oa:=Q8 Yy.out 1
  have Ob:=Q8 Yy.out 2
  go_wp2_with (first|((with_reducible refine Qu (f:=34) rfl ?_);refine Yk (some 10) rfl rfl Try.func34 (by kernel_rfl) rfl #[.int .i64 (Qa.length:Int),.int .i64 1,.int .i64 3] rfl (by (try simp only [List.map_toArray,List.map_cons,List.map_nil]);first|done|rfl|(simp only [List.length_drop,List.length_take];rfl)) ?_;(with_reducible refine (Qq.calls (Qa.length:Int) 1 3 false _ A4.out).mono ?_);rintro e w' ⟨rfl,⟨nd,rfl⟩⟩;refine ⟨_,rfl,?_⟩))
  go_meet
  case rel=>exact ⟨_,(false),(by first|rfl|(simp;done)|(simp [*];done)),H',⟨by first|omega|exact Nat.le_refl _⟩,⟨by (with_reducible repeat (first|refine Q5 ?_ _|refine Q9 ?_|refine Q4 ?_ _));exact Yy.out⟩,⟨by repeat (first|(with_reducible first|exact HB.out|apply Q2|apply Q0|apply Q3|refine Q7 ?_ Ka.out)|exact HB.out)⟩⟩
 case rest =>
  clear HC2
  try clear p2
  try clear c3
  try clear c5
  try clear c7
  try clear c9
  try clear Gl
  try clear Gm
  try clear Gt
  try clear JL
  try clear JM
  try clear JN
  try clear Jq
  try clear Jr
  try clear JF
  try clear O3
  try clear O4
  try clear O5
  try clear Gn
  try clear Gp
  try clear Gu
  try clear JO
  try clear JP
  try clear JQ
  try clear Js
  try clear Jt
  try clear JG
  try clear O9
  try clear Oa
  try clear Ob
  obtain ⟨kq,qhx,rfl,HA,HJ1,Yy,HB⟩:=hcut
  cases kq with
  | zero=>exact absurd HA.out (by simp [Qb.j0])
  | succ kj1 =>
   have H:=HA.out
   clear HA
   simp only [Qb.j0] at H
   have quh:=Q1.mk H
   clear H
   go_upto_block 0 with (fail)
   go_cut [3] (fun v3 wc => ∃ (kq:Nat) (qm5:Bool),v3 = .bool qm5∧Q1 (Qb.j2 kq qm5 Qa Qe Qc=some r)∧Q1 (kq≤kj1)∧Q1 (wc.heap[Jx]? = some (.cells #[(.slice Qy Qa.length Qr),(.slice Qv Qe.length Qs),(.slice Qz Qc.length Qt)] 47 (0,0)))∧Q1 (Below w.heap.size w wc))
   case first =>
    have H:=quh.out;clear quh;have H':=Q1.mk H;clear H
    go_wp2
    go_loopg [3,4] kj1 (fun kq v3 v4 w' => ∃ (qsO:Bool) (JD:Int),v3 = .bool qsO∧v4 = .int .i64 JD∧Q1 (Qb.l0 kq qsO JD Qa Qe Qc=some r)∧Q1 (kq≤kj1)∧Q1 (w'.heap[Jx]? = some (.cells #[(.slice Qy Qa.length Qr),(.slice Qv Qe.length Qs),(.slice Qz Qc.length Qt)] 47 (0,0)))∧Q1 (Below w.heap.size w w'))
    case atStart=>exact ⟨(qhx),(0),(by first|rfl|(simp;done)|(simp [*];done)),(by first|rfl|(simp;done)|(simp [*];done)),H',⟨Nat.le_refl _⟩,⟨by (with_reducible repeat (first|refine Q5 ?_ _|refine Q9 ?_|refine Q4 ?_ _));exact Yy.out⟩,⟨by repeat (first|(with_reducible first|exact HB.out|apply Q2|apply Q0|apply Q3|refine Q7 ?_ Ka.out)|exact HB.out)⟩⟩
    case round =>
     clear H';(try clear p2);(try clear c3);(try clear c5);(try clear c7);(try clear c9);(try clear Gl);(try clear Gm);(try clear Gt);(try clear JL);(try clear JM);(try clear JN);(try clear Jq);(try clear Jr);(try clear JF);(try clear O3);(try clear O4);(try clear O5);(try clear Gn);(try clear Gp);(try clear Gu);(try clear JO);(try clear JP);(try clear JQ);(try clear Js);(try clear Jt);(try clear JG);(try clear O9);(try clear Oa);(try clear Ob);(try clear p2);obtain ⟨qsO,JD,rfl,rfl,HA,HK2,Yy,HB⟩:=hrel
     cases gk with
     | zero=>exact absurd HA.out (by simp [Qb.l0])
     | succ k2 =>
      have H:=HA.out;clear HA;simp only [Qb.l0] at H
      by_cases c18:qsO=true
      ·
       subst c18
       have H1:(if JD<(Qa.length:Int) then (if 0≤JD then ((Qm.f k2 ((Qd Qa JD).f0) ((Qd Qa JD).f1) ((Qd Qa JD).f2) ((Qd Qa JD).f3) ((Qd Qa JD).f4)).bind fun qhm=>(Qb.l0 k2 qhm (wrap64 (JD+1)) Qa Qe Qc)) else (none)) else (Qb.j2 k2 true Qa Qe Qc))=some r:=by rw [if_pos rfl] at H;exact H
       clear H;have H:=H1;clear H1
       by_cases c19:JD<(Qa.length:Int)
       ·
        rw [if_pos c19] at H;have c19b0:decide (JD<(Qa.length:Int))=true:=decide_eq_true c19;clear c19
        (first|rw [c19b0]|(simp only [QC,QD];rw [c19b0])|skip)
        by_cases c20:0≤JD
        ·
         rw [if_pos c20] at H;have c20b0:decide (0≤JD)=true:=decide_eq_true c20;clear c20;replace H:=Option.bind_eq_some_iff.mp H;obtain ⟨qhm,qez,H⟩:=H;replace H:(Qb.l0 k2 qhm (wrap64 (JD+1)) Qa Qe Qc)=some r:=H;have A21:=Q1.mk qez;clear qez;have H':=Q1.mk H;clear H;have Ot:wr.cell? ⟨Jx,0,none⟩=some (.slice Qy Qa.length Qr):=(Q6 Yy.out 0).trans rfl;have Ou:wr.cell? ⟨Jx,1,none⟩=some (.slice Qv Qe.length Qs):=(Q6 Yy.out 1).trans rfl;have Ov:wr.cell? ⟨Jx,2,none⟩=some (.slice Qz Qc.length Qt):=(Q6 Yy.out 2).trans rfl;have Oz:=Q8 Yy.out 0;have OA:=Q8 Yy.out 1;have OB:=Q8 Yy.out 2;have qiZ:0≤(JD:Int):=of_decide_eq_true (by first|(with_reducible assumption)|assumption);have qi3:JD<(Qa.length:Int):=of_decide_eq_true (by first|(with_reducible assumption)|assumption);obtain ⟨qxi,qt4,quw,qt5,qux,qt6,quy,qFW,WS,WT,WU,WV,WW,qmI,qmq,qmJ,qmr,qmK,qms⟩:=qat Z1.out JD qiZ qi3;cases qFW;replace WS:=(HB.out.cell (World.block_lt_of_cell? w _ WS)).trans WS;replace WT:=(HB.out.cell (World.block_lt_of_cell? w _ WT)).trans WT;replace WU:=(HB.out.cell (World.block_lt_of_cell? w _ WU)).trans WU;replace WV:=(HB.out.cell (World.block_lt_of_cell? w _ WV)).trans WV;replace WW:=(HB.out.cell (World.block_lt_of_cell? w _ WW)).trans WW;have qqn:=Q1.mk qmq;have qqa:=Q1.mk qmI;clear qmq qmI;have qqo:=Q1.mk qmr;have qqb:=Q1.mk qmJ;clear qmr qmJ;have qqp:=Q1.mk qms;have qqc:=Q1.mk qmK;clear qms qmK;replace qiZ:=eq_true qiZ;replace qi3:=eq_true qi3
         go_wp2_with (first|((with_reducible refine Qu (f:=79) rfl ?_);refine Yk (some 45) rfl rfl Try.func79 (by kernel_rfl) rfl #[.agg #[.slice qt4 ((Qd Qa JD).f0).length quw,.slice qt5 ((Qd Qa JD).f1).length qux,.slice qt6 ((Qd Qa JD).f2).length quy,.int .i64 ((Qd Qa JD).f3),.int .i64 ((Qd Qa JD).f4)]] rfl (by (try simp only [List.map_toArray,List.map_cons,List.map_nil]);first|done|rfl|(simp only [List.length_drop,List.length_take];rfl)) ?_;(with_reducible refine (Qm.calls k2 _ _ ((Qd Qa JD).f0) _ _ ((Qd Qa JD).f1) _ _ ((Qd Qa JD).f2) ((Qd Qa JD).f3) ((Qd Qa JD).f4) qhm _ ?side1 ?side2 ?side3 ?side4 ?side5 ?side6 A21.out).mono ?_);(case side1=>repeat (first|exact (Kd.C_below qqn.out HB.out)|(with_reducible refine Kd.C_alloc ?_ _)|(with_reducible refine Kd.C_drewN ?_ _)|(with_reducible refine Kd.C_drew ?_)));(case side2=>exact qqa.out);(case side3=>repeat (first|exact (Kd.C_below qqo.out HB.out)|(with_reducible refine Kd.C_alloc ?_ _)|(with_reducible refine Kd.C_drewN ?_ _)|(with_reducible refine Kd.C_drew ?_)));(case side4=>exact qqb.out);(case side5=>repeat (first|exact (Kd.C_below qqp.out HB.out)|(with_reducible refine Kd.C_alloc ?_ _)|(with_reducible refine Kd.C_drewN ?_ _)|(with_reducible refine Kd.C_drew ?_)));(case side6=>exact qqc.out);rintro e w23 ⟨rfl,hb⟩;refine ⟨_,rfl,?_⟩;have n0_:=Q1.mk (Qg (g:=Jx) (by (with_reducible repeat (first|refine Q5 ?_ _|refine Q9 ?_|refine Q4 ?_ _));exact Yy.out) hb);have n1_:=Q1.mk (Qi (by repeat (first|(with_reducible first|exact HB.out|apply Q2|apply Q0|apply Q3|refine Q7 ?_ Ka.out)|exact HB.out)) hb);clear Yy HB;have Yy:=n0_;have HB:=n1_;clear n0_ n1_;(try clear hb);(try clear hb2);(try clear hk);(try clear hi)))
         go_roundg k2
         case measure=>have:=HJ1.out;have:=HK2.out;omega
         case rel=>exact ⟨(qhm),(wrap64 (JD+1)),(by first|rfl|(simp;done)|(simp [*];done)),(by first|rfl|(simp;done)|(simp [*];done)),H',⟨by have:=HJ1.out;have:=HK2.out;omega⟩,⟨by (with_reducible repeat (first|refine Q5 ?_ _|refine Q9 ?_|refine Q4 ?_ _));exact Yy.out⟩,⟨by repeat (first|(with_reducible first|exact HB.out|apply Q2|apply Q0|apply Q3|refine Q7 ?_ Ka.out)|exact HB.out)⟩⟩
        rw [if_neg c20] at H
        exact absurd H (by simp)
       rw [if_neg c19] at H;have c19b0:decide (JD<(Qa.length:Int))=false:=decide_eq_false c19;clear c19
       (first|rw [c19b0]|(simp only [QC,QD];rw [c19b0])|skip)
       have H':=Q1.mk H;clear H;have XH:wr.cell? ⟨Jx,0,none⟩=some (.slice Qy Qa.length Qr):=(Q6 Yy.out 0).trans rfl;have XI:wr.cell? ⟨Jx,1,none⟩=some (.slice Qv Qe.length Qs):=(Q6 Yy.out 1).trans rfl;have XJ:wr.cell? ⟨Jx,2,none⟩=some (.slice Qz Qc.length Qt):=(Q6 Yy.out 2).trans rfl;have XQ:=Q8 Yy.out 0;have XR:=Q8 Yy.out 1;have XS:=Q8 Yy.out 2
       go_wp2
       go_meet
       case rel=>exact ⟨_,(true),(by first|rfl|(simp;done)|(simp [*];done)),H',⟨by have:=HJ1.out;have:=HK2.out;first|omega|exact Nat.le_refl _⟩,⟨by (with_reducible repeat (first|refine Q5 ?_ _|refine Q9 ?_|refine Q4 ?_ _));exact Yy.out⟩,⟨by repeat (first|(with_reducible first|exact HB.out|apply Q2|apply Q0|apply Q3|refine Q7 ?_ Ka.out)|exact HB.out)⟩⟩
      replace c18:=Bool.eq_false_iff.mpr c18;subst c18
      have H1:(Qb.j2 k2 false Qa Qe Qc)=some r:=by rw [if_neg (show ¬ (false=true) by decide)] at H;exact H
      clear H;have H:=H1;clear H1;have H':=Q1.mk H;clear H
      go_wp2
      go_meet
      case rel=>exact ⟨_,(false),(by first|rfl|(simp;done)|(simp [*];done)),H',⟨by have:=HJ1.out;have:=HK2.out;first|omega|exact Nat.le_refl _⟩,⟨by (with_reducible repeat (first|refine Q5 ?_ _|refine Q9 ?_|refine Q4 ?_ _));exact Yy.out⟩,⟨by repeat (first|(with_reducible first|exact HB.out|apply Q2|apply Q0|apply Q3|refine Q7 ?_ Ka.out)|exact HB.out)⟩⟩
   case rest =>
    clear quh;(try clear c1);(try clear c2);(try clear p2);(try clear c3);(try clear c4);(try clear p4);(try clear q4);(try clear hx4);(try clear c5);(try clear p6);(try clear c7);(try clear c9);(try clear c18);(try clear c19);(try clear c19b0);(try clear c20);(try clear c20b0);(try clear Gl);(try clear Gm);(try clear Gt);(try clear JL);(try clear JM);(try clear JN);(try clear Jq);(try clear Jr);(try clear JF);(try clear O3);(try clear O4);(try clear O5);(try clear Ot);(try clear Ou);(try clear Ov);(try clear XH);(try clear XI);(try clear XJ);(try clear Gn);(try clear Gp);(try clear Gu);(try clear JO);(try clear JP);(try clear JQ);(try clear Js);(try clear Jt);(try clear JG);(try clear O9);(try clear Oa);(try clear Ob);(try clear Oz);(try clear OA);(try clear OB);(try clear XQ);(try clear XR);(try clear XS);(try clear WS);(try clear WT);(try clear WU);(try clear WV);(try clear WW);(try clear p2);(try clear qiZ);(try clear qi3);obtain ⟨kq,qm5,rfl,HA,qhY,Yy,HB⟩:=hcut
    cases kq with
    | zero=>exact absurd HA.out (by simp [Qb.j2])
    | succ qzp =>
     have H:=HA.out;clear HA;simp only [Qb.j2] at H;have H':=Q1.mk H;clear H
     go_wp2
     go_loopg [3,5] qzp (fun kq v3 v5 w' => ∃ (qk4:Bool) (Gs:Int),v3 = .bool qk4∧v5 = .int .i64 Gs∧Q1 (Qb.l1 kq qk4 Gs Qa Qe Qc=some r)∧Q1 (kq≤qzp)∧Q1 (w'.heap[Jx]? = some (.cells #[(.slice Qy Qa.length Qr),(.slice Qv Qe.length Qs),(.slice Qz Qc.length Qt)] 47 (0,0)))∧Q1 (Below w.heap.size w w'))
     case atStart=>exact ⟨(qm5),(0),(by first|rfl|(simp;done)|(simp [*];done)),(by first|rfl|(simp;done)|(simp [*];done)),H',⟨Nat.le_refl _⟩,⟨by (with_reducible repeat (first|refine Q5 ?_ _|refine Q9 ?_|refine Q4 ?_ _));exact Yy.out⟩,⟨by repeat (first|(with_reducible first|exact HB.out|apply Q2|apply Q0|apply Q3|refine Q7 ?_ Ka.out)|exact HB.out)⟩⟩
     case round =>
      clear H';(try clear c1);(try clear c2);(try clear p2);(try clear c3);(try clear c4);(try clear p4);(try clear q4);(try clear hx4);(try clear c5);(try clear p6);(try clear c7);(try clear c9);(try clear c18);(try clear c19);(try clear c19b0);(try clear c20);(try clear c20b0);(try clear Gl);(try clear Gm);(try clear Gt);(try clear JL);(try clear JM);(try clear JN);(try clear Jq);(try clear Jr);(try clear JF);(try clear O3);(try clear O4);(try clear O5);(try clear Ot);(try clear Ou);(try clear Ov);(try clear XH);(try clear XI);(try clear XJ);(try clear Gn);(try clear Gp);(try clear Gu);(try clear JO);(try clear JP);(try clear JQ);(try clear Js);(try clear Jt);(try clear JG);(try clear O9);(try clear Oa);(try clear Ob);(try clear Oz);(try clear OA);(try clear OB);(try clear XQ);(try clear XR);(try clear XS);(try clear WS);(try clear WT);(try clear WU);(try clear WV);(try clear WW);(try clear p2);(try clear p4);(try clear qiZ);(try clear p6);(try clear q4);(try clear qi3);obtain ⟨qk4,Gs,rfl,rfl,HA,HK3,Yy,HB⟩:=hrel
      cases gk with
      | zero=>exact absurd HA.out (by simp [Qb.l1])
      | succ k3 =>
       have H:=HA.out;clear HA;simp only [Qb.l1] at H;have qui:=Q1.mk H;clear H
       go_upto_region 7 with (fail)
       go_cut [53] (fun v53 wc => ∃ (kq:Nat) (qhG:Bool),v53 = .bool qhG∧Q1 (Qb.j4 kq qk4 Gs qhG Qa Qe Qc=some r)∧Q1 (kq≤k3)∧Q1 (wc.heap[Jx]? = some (.cells #[(.slice Qy Qa.length Qr),(.slice Qv Qe.length Qs),(.slice Qz Qc.length Qt)] 47 (0,0)))∧Q1 (Below w.heap.size w wc))
       case first =>
        have H:=qui.out;clear qui
        by_cases c26:qk4=true
        ·
         subst c26
         have H1:(Qb.j4 k3 true Gs (decide (Gs<(Qc.length:Int))) Qa Qe Qc)=some r:=by rw [if_pos rfl] at H;exact H
         clear H;have H:=H1;clear H1;have H':=Q1.mk H;clear H;have qgj:wr.cell? ⟨Jx,0,none⟩=some (.slice Qy Qa.length Qr):=(Q6 Yy.out 0).trans rfl;have qgk:wr.cell? ⟨Jx,1,none⟩=some (.slice Qv Qe.length Qs):=(Q6 Yy.out 1).trans rfl;have qgl:wr.cell? ⟨Jx,2,none⟩=some (.slice Qz Qc.length Qt):=(Q6 Yy.out 2).trans rfl;have qgy:=Q8 Yy.out 0;have qgz:=Q8 Yy.out 1;have qgA:=Q8 Yy.out 2
         go_wp2
         go_meet
         case rel=>exact ⟨_,(decide (Gs<(Qc.length:Int))),(by first|rfl|(simp;done)|(simp [*];done)),H',⟨by have:=HJ1.out;have:=qhY.out;have:=HK3.out;first|omega|exact Nat.le_refl _⟩,⟨by (with_reducible repeat (first|refine Q5 ?_ _|refine Q9 ?_|refine Q4 ?_ _));exact Yy.out⟩,⟨by repeat (first|(with_reducible first|exact HB.out|apply Q2|apply Q0|apply Q3|refine Q7 ?_ Ka.out)|exact HB.out)⟩⟩
        replace c26:=Bool.eq_false_iff.mpr c26;subst c26
        have H1:(Qb.j4 k3 false Gs false Qa Qe Qc)=some r:=by rw [if_neg (show ¬ (false=true) by decide)] at H;exact H
        clear H;have H:=H1;clear H1;have H':=Q1.mk H;clear H
        go_wp2
        go_meet
        case rel=>exact ⟨_,(false),(by first|rfl|(simp;done)|(simp [*];done)),H',⟨by have:=HJ1.out;have:=qhY.out;have:=HK3.out;first|omega|exact Nat.le_refl _⟩,⟨by (with_reducible repeat (first|refine Q5 ?_ _|refine Q9 ?_|refine Q4 ?_ _));exact Yy.out⟩,⟨by repeat (first|(with_reducible first|exact HB.out|apply Q2|apply Q0|apply Q3|refine Q7 ?_ Ka.out)|exact HB.out)⟩⟩
       case rest =>
        clear qui;(try clear c1);(try clear c2);(try clear p2);(try clear c3);(try clear c4);(try clear p4);(try clear q4);(try clear hx4);(try clear c5);(try clear p6);(try clear c7);(try clear c9);(try clear c18);(try clear c19);(try clear c19b0);(try clear c20);(try clear c20b0);(try clear c26);(try clear Gl);(try clear Gm);(try clear Gt);(try clear JL);(try clear JM);(try clear JN);(try clear Jq);(try clear Jr);(try clear JF);(try clear O3);(try clear O4);(try clear O5);(try clear Ot);(try clear Ou);(try clear Ov);(try clear XH);(try clear XI);(try clear XJ);(try clear qgj);(try clear qgk);(try clear qgl);(try clear Gn);(try clear Gp);(try clear Gu);(try clear JO);(try clear JP);(try clear JQ);(try clear Js);(try clear Jt);(try clear JG);(try clear O9);(try clear Oa);(try clear Ob);(try clear Oz);(try clear OA);(try clear OB);(try clear XQ);(try clear XR);(try clear XS);(try clear qgy);(try clear qgz);(try clear qgA);(try clear WS);(try clear WT);(try clear WU);(try clear WV);(try clear WW);(try clear p2);(try clear p4);(try clear qiZ);(try clear p6);(try clear q4);(try clear qi3);obtain ⟨kq,qhG,rfl,HA,qne,Yy,HB⟩:=hcut
        cases kq with
        | zero=>exact absurd HA.out (by simp [Qb.j4])
        | succ qvk =>
         have H:=HA.out;clear HA;simp only [Qb.j4] at H
         by_cases c28:qhG=true
         ·
          subst c28
          have H1:(if 0≤Gs then (if Gs<(Qc.length:Int) then (Qb.l2 qvk (((QE Qc Gs).length:Int)==(Qa.length:Int)) Gs 0 Qa Qe Qc) else (none)) else (none))=some r:=by rw [if_pos rfl] at H;exact H
          clear H;have H:=H1;clear H1
          by_cases c29:0≤Gs
          ·
           rw [if_pos c29] at H;have c29b0:decide (0≤Gs)=true:=decide_eq_true c29;clear c29
           by_cases c30:Gs<(Qc.length:Int)
           ·
            rw [if_pos c30] at H;have c30b0:decide (Gs<(Qc.length:Int))=true:=decide_eq_true c30;clear c30;have H':=Q1.mk H;clear H
            try go_wp2
            have n0_:=Q1.mk (Q9 Yy.out);have n1_:=Q1.mk (Q3 HB.out);clear Yy HB;have Yy:=n0_;have HB:=n1_;clear n0_ n1_;have qpy:0≤(Gs:Int):=of_decide_eq_true (by first|(with_reducible assumption)|assumption);have qpC:Gs<(Qc.length:Int):=of_decide_eq_true (by first|(with_reducible assumption)|assumption);obtain ⟨qbg,qt7,quz,qFX,qac,qmL,qmt⟩:=qbh YV.out Gs qpy qpC;have qmQ:=qac;cases qFX;replace qac:=(HB.out.cell (World.block_lt_of_cell? w _ qac)).trans qac;have qqq:=Q1.mk qmt;have qzS:=Q1.mk qmL;clear qmt qmL;replace qpy:=eq_true qpy;replace qpC:=eq_true qpC;refine OO (n:=11) (S:=fun w'=>w'.cell? ⟨Jx,0,none⟩=some (.slice Qy Qa.length Qr)∧w'.cell? ⟨Jx,1,none⟩=some (.slice Qv Qe.length Qs)∧w'.cell? ⟨Jx,2,none⟩=some (.slice (some qbg) Qc.length Qt)∧w'.cell? (qbg.add (Gs).toNat)=some (.slice qt7 (QE Qc Gs).length quz)) (ds:=[]) #[false,false,false,false,false,false,false,false,false,false,false] (by kernel_rfl) rfl rfl ⟨(Q6 Yy.out 0).trans rfl,(Q6 Yy.out 1).trans rfl,(Q6 Yy.out 2).trans rfl,((HB.out.cell (World.block_lt_of_cell? w _ qmQ)).trans qmQ)⟩ (fun hHeld => ?_);refine Gq Qb.tab9 Qb.bits9 (fun HT_ HW_ => ?_)
            generalize wc.drew=w31 at Yy HB qqq qac hHeld ⊢
            refine Y2 (i:=0) (N:=some 56) (v:=?_) (a':=?_) #[true,false,false,false,false,false,false,false,false,false,false] rfl rfl (QJ HT_.out (by kernel_rfl)) (fun _ _ _ h=>h) (Or.inl ⟨by rfl,?_⟩) ?_ ?_
            rotate_left
            ·
             intro w'
             go_simp
             with_reducible rfl
            rotate_left
            ·
             simp only [Act.put,List.setIfInBounds_toArray,List.set_cons_zero,List.set_cons_succ,QC,QD]
             rfl
            refine Y2 (i:=2) (N:=some 58) (v:=?_) (a':=?_) #[true,false,true,false,false,false,false,false,false,false,false] rfl rfl (QJ HT_.out (by kernel_rfl)) (fun _ _ _ h=>h) (Or.inl ⟨by rfl,?_⟩) ?_ ?_
            rotate_left
            ·
             intro w'
             go_simp
             with_reducible rfl
            rotate_left
            ·
             simp only [Act.put,List.setIfInBounds_toArray,List.set_cons_zero,List.set_cons_succ,QC,QD]
             rfl
            refine Y2 (i:=6) (N:=some 62) (v:=?_) (a':=?_) #[true,false,true,false,false,false,true,false,false,false,false] rfl rfl (QJ HT_.out (by kernel_rfl)) (fun _ _ _ h=>h) (Or.inl ⟨by rfl,?_⟩) ?_ ?_
            rotate_left
            ·
             intro w'
             go_simp
             with_reducible rfl
            rotate_left
            ·
             simp only [Act.put,List.setIfInBounds_toArray,List.set_cons_zero,List.set_cons_succ,QC,QD]
             rfl
            refine J8 (i:=1) (N:=some 57) (v:=?_) (a':=?_) #[true,true,true,false,false,false,true,false,false,false,false] rfl rfl (YN HT_.out HW_.out (by kernel_rfl)) (fun _ _ _ h=>h) (Or.inl ⟨by rfl,?_⟩) hHeld ?_ ?_
            rotate_left
            ·
             rintro w' ⟨s0,s1,s2,s3⟩
             go_simp
             with_reducible rfl
            rotate_left
            ·
             simp only [Act.put,List.setIfInBounds_toArray,List.set_cons_zero,List.set_cons_succ,QC,QD]
             rfl
            refine Y2 (i:=3) (N:=some 59) (v:=?_) (a':=?_) #[true,true,true,true,false,false,true,false,false,false,false] rfl rfl (QJ HT_.out (by kernel_rfl)) (fun _ _ _ h=>h) (Or.inl ⟨by rfl,?_⟩) ?_ ?_
            rotate_left
            ·
             intro w'
             go_simp
             with_reducible rfl
            rotate_left
            ·
             simp only [Act.put,List.setIfInBounds_toArray,List.set_cons_zero,List.set_cons_succ,QC,QD]
             rfl
            refine J8 (i:=4) (N:=some 60) (v:=?_) (a':=?_) #[true,true,true,true,true,false,true,false,false,false,false] rfl rfl (YN HT_.out HW_.out (by kernel_rfl)) (fun _ _ _ h=>h) (Or.inl ⟨by rfl,?_⟩) hHeld ?_ ?_
            rotate_left
            ·
             rintro w' ⟨s0,s1,s2,s3⟩
             go_simp
             with_reducible rfl
            rotate_left
            ·
             simp only [Act.put,List.setIfInBounds_toArray,List.set_cons_zero,List.set_cons_succ,QC,QD]
             rfl
            refine Y2 (i:=5) (N:=some 61) (v:=?_) (a':=?_) #[true,true,true,true,true,true,true,false,false,false,false] rfl rfl (QJ HT_.out (by kernel_rfl)) (fun _ _ _ h=>h) (Or.inl ⟨by rfl,?_⟩) ?_ ?_
            rotate_left
            ·
             intro w'
             go_simp
             with_reducible rfl
            rotate_left
            ·
             simp only [Act.put,List.setIfInBounds_toArray,List.set_cons_zero,List.set_cons_succ,QC,QD]
             rfl
            refine J8 (i:=7) (N:=some 63) (v:=?_) (a':=?_) #[true,true,true,true,true,true,true,true,false,false,false] rfl rfl (YN HT_.out HW_.out (by kernel_rfl)) (fun _ _ _ h=>h) (Or.inl ⟨by rfl,?_⟩) hHeld ?_ ?_
            rotate_left
            ·
             rintro w' ⟨s0,s1,s2,s3⟩
             go_simp
             with_reducible rfl
            rotate_left
            ·
             simp only [Act.put,List.setIfInBounds_toArray,List.set_cons_zero,List.set_cons_succ,QC,QD]
             rfl
            refine Y2 (i:=8) (N:=some 64) (v:=?_) (a':=?_) #[true,true,true,true,true,true,true,true,true,false,false] rfl rfl (QJ HT_.out (by kernel_rfl)) (fun _ _ _ h=>h) (Or.inl ⟨by rfl,?_⟩) ?_ ?_
            rotate_left
            ·
             intro w'
             go_simp
             with_reducible rfl
            rotate_left
            ·
             simp only [Act.put,List.setIfInBounds_toArray,List.set_cons_zero,List.set_cons_succ,QC,QD]
             rfl
            refine Y2 (i:=9) (N:=some 65) (v:=?_) (a':=?_) #[true,true,true,true,true,true,true,true,true,true,false] rfl rfl (QJ HT_.out (by kernel_rfl)) (fun _ _ _ h=>h) (Or.inl ⟨by rfl,?_⟩) ?_ ?_
            rotate_left
            ·
             intro w'
             go_simp
             with_reducible rfl
            rotate_left
            ·
             simp only [Act.put,List.setIfInBounds_toArray,List.set_cons_zero,List.set_cons_succ,QC,QD]
             rfl
            refine Y2 (i:=10) (N:=some 3) (v:=?_) (a':=?_) #[true,true,true,true,true,true,true,true,true,true,true] rfl rfl (QJ HT_.out (by kernel_rfl)) (fun _ _ _ h=>h) (Or.inl ⟨by rfl,?_⟩) ?_ ?_
            rotate_left
            ·
             intro w'
             go_simp
             with_reducible rfl
            rotate_left
            ·
             simp only [Act.put,List.setIfInBounds_toArray,List.set_cons_zero,List.set_cons_succ,QC,QD]
             rfl
            refine Wu (KC HT_.out (by kernel_rfl)) ?_
            try go_wp2
            go_loopg [3,6] qvk (fun kq v3 v6 w' => ∃ (qk5:Bool) (Ux:Int),v3 = .bool qk5∧v6 = .int .i64 Ux∧Q1 (Qb.l2 kq qk5 Gs Ux Qa Qe Qc=some r)∧Q1 (kq≤qvk)∧Q1 (w'.heap[Jx]? = some (.cells #[(.slice Qy Qa.length Qr),(.slice Qv Qe.length Qs),(.slice (some qbg) Qc.length Qt)] 47 (0,0)))∧Q1 (Below w.heap.size w w'))
            case atStart=>exact ⟨((((QE Qc Gs).length:Int)==(Qa.length:Int))),(0),(by first|rfl|(simp;done)|(simp [*];done)),(by first|rfl|(simp;done)|(simp [*];done)),H',⟨Nat.le_refl _⟩,⟨by (with_reducible repeat (first|refine Q5 ?_ _|refine Q9 ?_|refine Q4 ?_ _));exact Yy.out⟩,⟨by repeat (first|(with_reducible first|exact HB.out|apply Q2|apply Q0|apply Q3|refine Q7 ?_ Ka.out)|exact HB.out)⟩⟩
            case round =>
             clear H';(try clear c1);(try clear c2);(try clear p2);(try clear c3);(try clear c4);(try clear p4);(try clear q4);(try clear hx4);(try clear c5);(try clear p6);(try clear c7);(try clear c9);(try clear c18);(try clear c19);(try clear c19b0);(try clear c20);(try clear c20b0);(try clear c26);(try clear c28);(try clear c29);(try clear c29b0);(try clear c30);(try clear c30b0);(try clear Gl);(try clear Gm);(try clear Gt);(try clear JL);(try clear JM);(try clear JN);(try clear Jq);(try clear Jr);(try clear JF);(try clear O3);(try clear O4);(try clear O5);(try clear Ot);(try clear Ou);(try clear Ov);(try clear XH);(try clear XI);(try clear XJ);(try clear qgj);(try clear qgk);(try clear qgl);(try clear Gn);(try clear Gp);(try clear Gu);(try clear JO);(try clear JP);(try clear JQ);(try clear Js);(try clear Jt);(try clear JG);(try clear O9);(try clear Oa);(try clear Ob);(try clear Oz);(try clear OA);(try clear OB);(try clear XQ);(try clear XR);(try clear XS);(try clear qgy);(try clear qgz);(try clear qgA);(try clear WS);(try clear WT);(try clear WU);(try clear WV);(try clear WW);(try clear qac);(try clear p2);(try clear p4);(try clear qiZ);(try clear qpy);(try clear p6);(try clear q4);(try clear qi3);(try clear qpC);obtain ⟨qk5,Ux,rfl,rfl,HA,HK5,Yy,HB⟩:=hrel
             cases gk with
             | zero=>exact absurd HA.out (by simp [Qb.l2])
             | succ k5 =>
              have H:=HA.out;clear HA;simp only [Qb.l2] at H;have quk:=Q1.mk H;clear H
              go_upto_region 11 with (fail)
              go_cut [73] (fun v73 wc => ∃ (kq:Nat) (qhI:Bool),v73 = .bool qhI∧Q1 (Qb.j6 kq qk5 Gs Ux qhI Qa Qe Qc=some r)∧Q1 (kq≤k5)∧Q1 (wc.heap[Jx]? = some (.cells #[(.slice Qy Qa.length Qr),(.slice Qv Qe.length Qs),(.slice (some qbg) Qc.length Qt)] 47 (0,0)))∧Q1 (Below w.heap.size w wc))
              case first =>
               have H:=quk.out;clear quk
               by_cases c33:qk5=true
               ·
                subst c33
                have H1:(Qb.j6 k5 true Gs Ux (decide (Ux<(Qa.length:Int))) Qa Qe Qc)=some r:=by rw [if_pos rfl] at H;exact H
                clear H;have H:=H1;clear H1;have H':=Q1.mk H;clear H;have qqY:wr.cell? ⟨Jx,0,none⟩=some (.slice Qy Qa.length Qr):=(Q6 Yy.out 0).trans rfl;have qqZ:wr.cell? ⟨Jx,1,none⟩=some (.slice Qv Qe.length Qs):=(Q6 Yy.out 1).trans rfl;have qq0:wr.cell? ⟨Jx,2,none⟩=some (.slice (some qbg) Qc.length Qt):=(Q6 Yy.out 2).trans rfl;have qrC:=Q8 Yy.out 0;have qrD:=Q8 Yy.out 1;have qrE:=Q8 Yy.out 2
                go_wp2
                go_meet
                case rel=>exact ⟨_,(decide (Ux<(Qa.length:Int))),(by first|rfl|(simp;done)|(simp [*];done)),H',⟨by have:=HJ1.out;have:=qhY.out;have:=HK3.out;have:=qne.out;have:=HK5.out;first|omega|exact Nat.le_refl _⟩,⟨by (with_reducible repeat (first|refine Q5 ?_ _|refine Q9 ?_|refine Q4 ?_ _));exact Yy.out⟩,⟨by repeat (first|(with_reducible first|exact HB.out|apply Q2|apply Q0|apply Q3|refine Q7 ?_ Ka.out)|exact HB.out)⟩⟩
               replace c33:=Bool.eq_false_iff.mpr c33;subst c33
               have H1:(Qb.j6 k5 false Gs Ux false Qa Qe Qc)=some r:=by rw [if_neg (show ¬ (false=true) by decide)] at H;exact H
               clear H;have H:=H1;clear H1;have H':=Q1.mk H;clear H
               go_wp2
               go_meet
               case rel=>exact ⟨_,(false),(by first|rfl|(simp;done)|(simp [*];done)),H',⟨by have:=HJ1.out;have:=qhY.out;have:=HK3.out;have:=qne.out;have:=HK5.out;first|omega|exact Nat.le_refl _⟩,⟨by (with_reducible repeat (first|refine Q5 ?_ _|refine Q9 ?_|refine Q4 ?_ _));exact Yy.out⟩,⟨by repeat (first|(with_reducible first|exact HB.out|apply Q2|apply Q0|apply Q3|refine Q7 ?_ Ka.out)|exact HB.out)⟩⟩
              case rest =>
               clear quk;(try clear c1);(try clear c2);(try clear p2);(try clear c3);(try clear c4);(try clear p4);(try clear q4);(try clear hx4);(try clear c5);(try clear p6);(try clear c7);(try clear c9);(try clear c18);(try clear c19);(try clear c19b0);(try clear c20);(try clear c20b0);(try clear c26);(try clear c28);(try clear c29);(try clear c29b0);(try clear c30);(try clear c30b0);(try clear c33);(try clear Gl);(try clear Gm);(try clear Gt);(try clear JL);(try clear JM);(try clear JN);(try clear Jq);(try clear Jr);(try clear JF);(try clear O3);(try clear O4);(try clear O5);(try clear Ot);(try clear Ou);(try clear Ov);(try clear XH);(try clear XI);(try clear XJ);(try clear qgj);(try clear qgk);(try clear qgl);(try clear qqY);(try clear qqZ);(try clear qq0);(try clear Gn);(try clear Gp);(try clear Gu);(try clear JO);(try clear JP);(try clear JQ);(try clear Js);(try clear Jt);(try clear JG);(try clear O9);(try clear Oa);(try clear Ob);(try clear Oz);(try clear OA);(try clear OB);(try clear XQ);(try clear XR);(try clear XS);(try clear qgy);(try clear qgz);(try clear qgA);(try clear qrC);(try clear qrD);(try clear qrE);(try clear WS);(try clear WT);(try clear WU);(try clear WV);(try clear WW);(try clear qac);(try clear p2);(try clear p4);(try clear qiZ);(try clear qpy);(try clear p6);(try clear q4);(try clear qi3);(try clear qpC);obtain ⟨kq,qhI,rfl,HA,qqi,Yy,HB⟩:=hcut
               cases kq with
               | zero=>exact absurd HA.out (by simp [Qb.j6])
               | succ qgX =>
                have H:=HA.out;clear HA;simp only [Qb.j6] at H
                by_cases c35:qhI=true
                ·
                 subst c35
                 have H1:(if 0≤Gs then (if Gs<(Qc.length:Int) then (if 0≤Ux then (if Ux<((QE Qc Gs).length:Int) then ((Yw.f Qa Qe Qc).bind fun qjy=>((QS.f qgX (Ya (QE Qc Gs) Ux) qjy 100000).bind fun qfc=>(Qb.l2 qgX qfc Gs (wrap64 (Ux+1)) Qa Qe Qc))) else (none)) else (none)) else (none)) else (none))=some r:=by rw [if_pos rfl] at H;exact H
                 clear H;have H:=H1;clear H1
                 by_cases c36:0≤Gs
                 ·
                  rw [if_pos c36] at H;have c36b0:decide (0≤Gs)=true:=decide_eq_true c36;clear c36
                  by_cases c37:Gs<(Qc.length:Int)
                  ·
                   rw [if_pos c37] at H;have c37b0:decide (Gs<(Qc.length:Int))=true:=decide_eq_true c37;clear c37
                   by_cases c38:0≤Ux
                   ·
                    rw [if_pos c38] at H;have c38b0:decide (0≤Ux)=true:=decide_eq_true c38;clear c38
                    by_cases c39:Ux<((QE Qc Gs).length:Int)
                    ·
                     rw [if_pos c39] at H;have c39b0:decide (Ux<((QE Qc Gs).length:Int))=true:=decide_eq_true c39;clear c39;replace H:=Option.bind_eq_some_iff.mp H;obtain ⟨qjy,qwn,H⟩:=H;replace H:((QS.f qgX (Ya (QE Qc Gs) Ux) qjy 100000).bind fun qfc=>(Qb.l2 qgX qfc Gs (wrap64 (Ux+1)) Qa Qe Qc))=some r:=H;have A40:=Q1.mk qwn;clear qwn;replace H:=Option.bind_eq_some_iff.mp H;obtain ⟨qfc,qwo,H⟩:=H;replace H:(Qb.l2 qgX qfc Gs (wrap64 (Ux+1)) Qa Qe Qc)=some r:=H;have A41:=Q1.mk qwo;clear qwo;have H':=Q1.mk H;clear H
                     try go_wp2
                     have n0_:=Q1.mk (Q9 Yy.out);have n1_:=Q1.mk (Q3 HB.out);clear Yy HB;have Yy:=n0_;have HB:=n1_;clear n0_ n1_;have qvF:0≤(Gs:Int):=of_decide_eq_true (by first|(with_reducible assumption)|assumption);have qvZ:Gs<(Qc.length:Int):=of_decide_eq_true (by first|(with_reducible assumption)|assumption);obtain ⟨qxj,qFh,quA,qFY,qcO,qmM,qmu⟩:=qbh YV.out Gs qvF qvZ;have qaX:=qcO;obtain rfl:qbg=qxj:=(by injection qFY);replace qcO:=(HB.out.cell (World.block_lt_of_cell? w _ qcO)).trans qcO;have qlq:=Q1.mk qmu;have qzT:=Q1.mk qmM;clear qmu qmM;replace qvF:=eq_true qvF;replace qvZ:=eq_true qvZ;have qvG:0≤(Ux:Int):=of_decide_eq_true (by first|(with_reducible assumption)|assumption);have qv0:Ux<((QE Qc Gs).length:Int):=of_decide_eq_true (by first|(with_reducible assumption)|assumption);obtain ⟨qtO,qoe,qoH,qFZ,qcP,qmN,qmv⟩:=qdA qlq.out Ux qvG qv0;have qaY:=qcP;cases qFZ;replace qcP:=(HB.out.cell (World.block_lt_of_cell? w _ qcP)).trans qcP;have qlr:=Q1.mk qmv;have qqd:=Q1.mk qmN;clear qmv qmN;replace qvG:=eq_true qvG;replace qv0:=eq_true qv0;refine OO (n:=12) (S:=fun w'=>w'.cell? ⟨Jx,0,none⟩=some (.slice Qy Qa.length Qr)∧w'.cell? ⟨Jx,1,none⟩=some (.slice Qv Qe.length Qs)∧w'.cell? ⟨Jx,2,none⟩=some (.slice (some qbg) Qc.length Qt)∧w'.cell? (qbg.add (Gs).toNat)=some (.slice (some qtO) (QE Qc Gs).length quA)∧w'.cell? (qtO.add (Ux).toNat)=some (.slice qoe (Ya (QE Qc Gs) Ux).length qoH)) (ds:=[]) #[false,false,false,false,false,false,false,false,false,false,false,false] (by kernel_rfl) rfl rfl ⟨(Q6 Yy.out 0).trans rfl,(Q6 Yy.out 1).trans rfl,(Q6 Yy.out 2).trans rfl,((HB.out.cell (World.block_lt_of_cell? w _ qaX)).trans qaX),((HB.out.cell (World.block_lt_of_cell? w _ qaY)).trans qaY)⟩ (fun hHeld => ?_);refine Gq Qb.tab13 Qb.bits13 (fun HT_ HW_ => ?_)
                     generalize wc.drew=w42 at Yy HB qlq qlr qcO qcP hHeld ⊢
                     refine Y2 (i:=0) (N:=some 76) (v:=?_) (a':=?_) #[true,false,false,false,false,false,false,false,false,false,false,false] rfl rfl (QJ HT_.out (by kernel_rfl)) (fun _ _ _ h=>h) (Or.inl ⟨by rfl,?_⟩) ?_ ?_
                     rotate_left
                     ·
                      intro w'
                      go_simp
                      with_reducible rfl
                     rotate_left
                     ·
                      simp only [Act.put,List.setIfInBounds_toArray,List.set_cons_zero,List.set_cons_succ,QC,QD]
                      rfl
                     refine Y2 (i:=2) (N:=some 78) (v:=?_) (a':=?_) #[true,false,true,false,false,false,false,false,false,false,false,false] rfl rfl (QJ HT_.out (by kernel_rfl)) (fun _ _ _ h=>h) (Or.inl ⟨by rfl,?_⟩) ?_ ?_
                     rotate_left
                     ·
                      intro w'
                      go_simp
                      with_reducible rfl
                     rotate_left
                     ·
                      simp only [Act.put,List.setIfInBounds_toArray,List.set_cons_zero,List.set_cons_succ,QC,QD]
                      rfl
                     refine Y2 (i:=5) (N:=some 81) (v:=?_) (a':=?_) #[true,false,true,false,false,true,false,false,false,false,false,false] rfl rfl (QJ HT_.out (by kernel_rfl)) (fun _ _ _ h=>h) (Or.inl ⟨by rfl,?_⟩) ?_ ?_
                     rotate_left
                     ·
                      intro w'
                      go_simp
                      with_reducible rfl
                     rotate_left
                     ·
                      simp only [Act.put,List.setIfInBounds_toArray,List.set_cons_zero,List.set_cons_succ,QC,QD]
                      rfl
                     refine J8 (i:=1) (N:=some 77) (v:=?_) (a':=?_) #[true,true,true,false,false,true,false,false,false,false,false,false] rfl rfl (YN HT_.out HW_.out (by kernel_rfl)) (fun _ _ _ h=>h) (Or.inl ⟨by rfl,?_⟩) hHeld ?_ ?_
                     rotate_left
                     ·
                      rintro w' ⟨s0,s1,s2,s3,s4⟩
                      go_simp
                      with_reducible rfl
                     rotate_left
                     ·
                      simp only [Act.put,List.setIfInBounds_toArray,List.set_cons_zero,List.set_cons_succ,QC,QD]
                      rfl
                     refine Y2 (i:=3) (N:=some 79) (v:=?_) (a':=?_) #[true,true,true,true,false,true,false,false,false,false,false,false] rfl rfl (QJ HT_.out (by kernel_rfl)) (fun _ _ _ h=>h) (Or.inl ⟨by rfl,?_⟩) ?_ ?_
                     rotate_left
                     ·
                      intro w'
                      go_simp
                      with_reducible rfl
                     rotate_left
                     ·
                      simp only [Act.put,List.setIfInBounds_toArray,List.set_cons_zero,List.set_cons_succ,QC,QD]
                      rfl
                     refine J8 (i:=4) (N:=some 80) (v:=?_) (a':=?_) #[true,true,true,true,true,true,false,false,false,false,false,false] rfl rfl (YN HT_.out HW_.out (by kernel_rfl)) (fun _ _ _ h=>h) (Or.inl ⟨by rfl,?_⟩) hHeld ?_ ?_
                     rotate_left
                     ·
                      rintro w' ⟨s0,s1,s2,s3,s4⟩
                      go_simp
                      with_reducible rfl
                     rotate_left
                     ·
                      simp only [Act.put,List.setIfInBounds_toArray,List.set_cons_zero,List.set_cons_succ,QC,QD]
                      rfl
                     refine Y2 (i:=6) (N:=some 82) (v:=?_) (a':=?_) #[true,true,true,true,true,true,true,false,false,false,false,false] rfl rfl (QJ HT_.out (by kernel_rfl)) (fun _ _ _ h=>h) (Or.inl ⟨by rfl,?_⟩) ?_ ?_
                     rotate_left
                     ·
                      intro w'
                      go_simp
                      with_reducible rfl
                     rotate_left
                     ·
                      simp only [Act.put,List.setIfInBounds_toArray,List.set_cons_zero,List.set_cons_succ,QC,QD]
                      rfl
                     refine J8 (i:=7) (N:=some 83) (v:=?_) (a':=?_) #[true,true,true,true,true,true,true,true,false,false,false,false] rfl rfl (YN HT_.out HW_.out (by kernel_rfl)) (fun _ _ _ h=>h) (Or.inl ⟨by rfl,?_⟩) hHeld ?_ ?_
                     rotate_left
                     ·
                      rintro w' ⟨s0,s1,s2,s3,s4⟩
                      go_simp
                      with_reducible rfl
                     rotate_left
                     ·
                      simp only [Act.put,List.setIfInBounds_toArray,List.set_cons_zero,List.set_cons_succ,QC,QD]
                      rfl
                     refine J8 (i:=8) (N:=some 84) (v:=?_) (a':=?_) #[true,true,true,true,true,true,true,true,true,false,false,false] rfl rfl (YN HT_.out HW_.out (by kernel_rfl)) (fun _ _ _ h=>h) (Or.inl ⟨by rfl,?_⟩) hHeld ?_ ?_
                     rotate_left
                     ·
                      rintro w' ⟨s0,s1,s2,s3,s4⟩
                      go_simp
                      with_reducible rfl
                     rotate_left
                     ·
                      simp only [Act.put,List.setIfInBounds_toArray,List.set_cons_zero,List.set_cons_succ,QC,QD]
                      rfl
                     refine one_ (i:=9) (N:=some 85) #[true,true,true,true,true,true,true,true,true,true,false,false] rfl rfl (GD HT_.out (by kernel_rfl)) (by decide) (fun K hK => ?_);refine Wv Try.func84 (by kernel_rfl) rfl #[.agg #[.slice Qy Qa.length Qr,.slice Qv Qe.length Qs,.slice (some qbg) Qc.length Qt]] (by rfl) rfl rfl (by (try simp only [List.map_toArray,List.map_cons,List.map_nil]);first|done|rfl|(simp only [List.length_drop,List.length_take];rfl)) ?_
                     with_reducible refine (Yw.calls _ _ Qa _ _ Qe _ _ Qc qjy _ ?side1 ?side2 ?side3 ?side4 ?side5 ?side6 A40.out).mono ?_
                     (case side1=>repeat (first|exact (Kd.C_below Z1.out HB.out)|(with_reducible refine Kd.C_alloc ?_ _)|(with_reducible refine Kd.C_drewN ?_ _)|(with_reducible refine Kd.C_drew ?_)))
                     (case side2=>exact Zh.out)
                     (case side3=>repeat (first|exact (Kd.C_below Z0.out HB.out)|(with_reducible refine Kd.C_alloc ?_ _)|(with_reducible refine Kd.C_drewN ?_ _)|(with_reducible refine Kd.C_drew ?_)))
                     (case side4=>exact Z9.out)
                     (case side5=>repeat (first|exact (Kd.C_below YV.out HB.out)|(with_reducible refine Kd.C_alloc ?_ _)|(with_reducible refine Kd.C_drewN ?_ _)|(with_reducible refine Kd.C_drew ?_)))
                     (case side6=>exact Zd.out)
                     rintro e w43 ⟨rfl,hb⟩;refine ⟨_,rfl,?_⟩;have n0_:=Q1.mk (Qg (g:=Jx) (by (with_reducible repeat (first|refine Q5 ?_ _|refine Q9 ?_|refine Q4 ?_ _));exact Yy.out) hb);have n1_:=Q1.mk (Qi (by repeat (first|(with_reducible first|exact HB.out|apply Q2|apply Q0|apply Q3|refine Q7 ?_ Ka.out)|exact HB.out)) hb);clear Yy HB;have Yy:=n0_;have HB:=n1_;clear n0_ n1_
                     (try clear hb)
                     (try clear hb2)
                     (try clear hk)
                     (try clear hi)
                     refine hK.out _ _ ⟨(Q6 Yy.out 0).trans rfl,(Q6 Yy.out 1).trans rfl,(Q6 Yy.out 2).trans rfl,((HB.out.cell (World.block_lt_of_cell? w _ qaX)).trans qaX),((HB.out.cell (World.block_lt_of_cell? w _ qaY)).trans qaY)⟩ (fun hHeld => ?_);clear hK K;refine GA (a':=?_) ?_ ?_
                     rotate_left
                     ·
                      show Act.put _ (some 85) _=_
                      simp only [Act.put,List.setIfInBounds_toArray,List.set_cons_zero,List.set_cons_succ,QC,QD]
                      rfl
                     refine one_ (i:=10) (N:=some 86) #[true,true,true,true,true,true,true,true,true,true,true,false] rfl rfl (GD HT_.out (by kernel_rfl)) (by decide) (fun K hK => ?_);refine Wv Try.func80 (by kernel_rfl) rfl #[.slice qoe (Ya (QE Qc Gs) Ux).length qoH,.int .i64 qjy,.int .i64 100000] (by rfl) rfl rfl (by (try simp only [List.map_toArray,List.map_cons,List.map_nil]);first|done|rfl|(simp only [List.length_drop,List.length_take];rfl)) ?_
                     with_reducible refine (QS.calls qgX _ _ (Ya (QE Qc Gs) Ux) qjy 100000 qfc _ ?side1 ?side2 A41.out).mono ?_
                     (case side1=>repeat (first|exact (Kd.C_below qlr.out HB.out)|(with_reducible refine Kd.C_alloc ?_ _)|(with_reducible refine Kd.C_drewN ?_ _)|(with_reducible refine Kd.C_drew ?_)))
                     (case side2=>exact qqd.out)
                     rintro e w' ⟨rfl,⟨nd,rfl⟩⟩;refine ⟨_,rfl,?_⟩;refine hK.out _ _ ⟨(Q6 Yy.out 0).trans rfl,(Q6 Yy.out 1).trans rfl,(Q6 Yy.out 2).trans rfl,((HB.out.cell (World.block_lt_of_cell? w _ qaX)).trans qaX),((HB.out.cell (World.block_lt_of_cell? w _ qaY)).trans qaY)⟩ (fun hHeld => ?_);clear hK K;refine GA (a':=?_) ?_ ?_
                     rotate_left
                     ·
                      show Act.put _ (some 86) _=_
                      simp only [Act.put,List.setIfInBounds_toArray,List.set_cons_zero,List.set_cons_succ,QC,QD]
                      rfl
                     refine Y2 (i:=11) (N:=some 3) (v:=?_) (a':=?_) #[true,true,true,true,true,true,true,true,true,true,true,true] rfl rfl (QJ HT_.out (by kernel_rfl)) (fun _ _ _ h=>h) (Or.inl ⟨by rfl,?_⟩) ?_ ?_
                     rotate_left
                     ·
                      intro w'
                      go_simp
                      with_reducible rfl
                     rotate_left
                     ·
                      simp only [Act.put,List.setIfInBounds_toArray,List.set_cons_zero,List.set_cons_succ,QC,QD]
                      rfl
                     refine Wu (KC HT_.out (by kernel_rfl)) ?_
                     try go_wp2
                     go_roundg qgX
                     case measure=>have:=HJ1.out;have:=qhY.out;have:=HK3.out;have:=qne.out;have:=HK5.out;have:=qqi.out;omega
                     case rel=>exact ⟨(qfc),(wrap64 (Ux+1)),(by first|rfl|(simp;done)|(simp [*];done)),(by first|rfl|(simp;done)|(simp [*];done)),H',⟨by have:=HJ1.out;have:=qhY.out;have:=HK3.out;have:=qne.out;have:=HK5.out;have:=qqi.out;omega⟩,⟨by (with_reducible repeat (first|refine Q5 ?_ _|refine Q9 ?_|refine Q4 ?_ _));exact Yy.out⟩,⟨by repeat (first|(with_reducible first|exact HB.out|apply Q2|apply Q0|apply Q3|refine Q7 ?_ Ka.out)|exact HB.out)⟩⟩
                    rw [if_neg c39] at H
                    exact absurd H (by simp)
                   rw [if_neg c38] at H
                   exact absurd H (by simp)
                  rw [if_neg c37] at H
                  exact absurd H (by simp)
                 rw [if_neg c36] at H
                 exact absurd H (by simp)
                replace c35:=Bool.eq_false_iff.mpr c35;subst c35
                have H1:(Qb.l1 qgX qk5 (wrap64 (Gs+1)) Qa Qe Qc)=some r:=by rw [if_neg (show ¬ (false=true) by decide)] at H;exact H
                clear H;have H:=H1;clear H1;have H':=Q1.mk H;clear H
                go_wp2
                go_roundg qgX
                case measure=>have:=HJ1.out;have:=qhY.out;have:=HK3.out;have:=qne.out;have:=HK5.out;have:=qqi.out;omega
                case rel=>exact ⟨(qk5),(wrap64 (Gs+1)),(by first|rfl|(simp;done)|(simp [*];done)),(by first|rfl|(simp;done)|(simp [*];done)),H',⟨by have:=HJ1.out;have:=qhY.out;have:=HK3.out;have:=qne.out;have:=HK5.out;have:=qqi.out;omega⟩,⟨by (with_reducible repeat (first|refine Q5 ?_ _|refine Q9 ?_|refine Q4 ?_ _));exact Yy.out⟩,⟨by repeat (first|(with_reducible first|exact HB.out|apply Q2|apply Q0|apply Q3|refine Q7 ?_ Ka.out)|exact HB.out)⟩⟩
           rw [if_neg c30] at H
           exact absurd H (by simp)
          rw [if_neg c29] at H
          exact absurd H (by simp)
         replace c28:=Bool.eq_false_iff.mpr c28;subst c28
         have H1:(if qk4=true then (some 0) else (some 93))=some r:=by rw [if_neg (show ¬ (false=true) by decide)] at H;exact H
         clear H;have H:=H1;clear H1
         by_cases c44:qk4=true
         ·
          subst c44
          have H1:(some 0)=some r:=by rw [if_pos rfl] at H;exact H
          clear H;have H:=H1;clear H1;obtain rfl:=Option.some.inj H
          go_wp2
          go_ret
          exact ⟨by first|rfl|(simp [Qw,Qx]<;>rfl)|(simp [*,Qw,Qx]<;>rfl),by repeat (first|(with_reducible first|exact HB.out|apply Q2|apply Q0|apply Q3|refine Q7 ?_ Ka.out)|exact HB.out)⟩
         replace c44:=Bool.eq_false_iff.mpr c44;subst c44
         have H1:(some 93)=some r:=by rw [if_neg (show ¬ (false=true) by decide)] at H;exact H
         clear H;have H:=H1;clear H1;obtain rfl:=Option.some.inj H
         go_wp2
         go_ret
         exact ⟨by first|rfl|(simp [Qw,Qx]<;>rfl)|(simp [*,Qw,Qx]<;>rfl),by repeat (first|(with_reducible first|exact HB.out|apply Q2|apply Q0|apply Q3|refine Q7 ?_ Ka.out)|exact HB.out)⟩
end
section
attribute [local go_sem] YC YE Z2 Z3 Yr Ys YD YF
def Yl.l0:Nat→Int→List Int→Int→List Int→List Int→List Int→Int→Int→Option (List Int)
 | 0,_,_,_,_,_,_,_,_=>none
 | k+1,x2,x7,x8,qsP,qsQ,qsR,qsS,qm6=>if x8≥qm6 then (if 0≤x8 then (if x8<(x7.length:Int) then (Yl.l0 k (wrap64 (x2-(mn (rd x7 x8) x2))) (x7.set (x8:Int).toNat (wrap64 ((rd x7 x8)-(mn (rd x7 x8) x2)))) (wrap64 (x8-1)) qsP qsQ qsR qsS qm6) else (none)) else (none)) else (some x7)
def Yl.f (k:Nat) (Qa:List Int) (Qe:List Int) (Qc:List Int) (QH:Int) (QG:Int) (l1:List Int) (a2:Int):Option (List Int):=(some (([]:List Int):List Int)).bind fun qfo=>(if qfo.length+l1.length<17592186044416 then ((some (qfo++l1:List Int)).bind fun qda=>(Yl.l0 k a2 qda (wrap64 ((qda.length:Int)-1)) Qa Qe Qc QH QG)) else (none))
set_option maxHeartbeats 8000000 in
set_option maxRecDepth 100000 in
theorem Yl.calls (k:Nat) (Qy:Option Addr) (Qr:Nat) (Qa:List Int) (Qv:Option Addr) (Qs:Nat) (Qe:List Int) (Qz:Option Addr) (Qt:Nat) (Qc:List Int) (QH:Int) (QG:Int) (A1:Option Addr) (c1:Nat) (l1:List Int) (a2:Int) (r:List Int) (w:World) (ZR:Kd.C (Kd.int .i64) w Qy Qa.length Qa) (ZW:Qa.length≤Qr) (ZL:Kd.C (Kd.int .i64) w Qv Qe.length Qe) (ZO:Qe.length≤Qs) (ZM:Kd.C (Kd.int .i64) w Qz Qc.length Qc) (ZP:Qc.length≤Qt) (hr1:Kd.C (Kd.int .i64) w A1 l1.length l1) (hc1:l1.length≤c1) (h:Yl.f k Qa Qe Qc QH QG l1 a2=some r) :
  Calls Try.prog 99 #[.agg #[.slice Qy Qa.length Qr,.slice Qv Qe.length Qs,.slice Qz Qc.length Qt,.int .i64 QH,.int .i64 QG],.slice A1 l1.length c1,.int .i64 a2] w fun e w' => ∃ v0_:Value,e = .returned (v0_)∧Kd.R (Kd.int .i64) 3 w' w.heap.size (fun _=>True) v0_ r∧Below w.heap.size w w':=by
 have qeZ:=Try.underlying39
 have Z1:=Q1.mk ZR
 have Zh:=Q1.mk ZW
 clear ZR ZW
 have Z0:=Q1.mk ZL
 have Z9:=Q1.mk ZO
 clear ZL ZO
 have YV:=Q1.mk ZM
 have Zd:=Q1.mk ZP
 clear ZM ZP
 have HR1:=Q1.mk hr1
 have HC1:=Q1.mk hc1
 clear hr1 hc1
 have HB:=Q1.mk (Below.refl w.heap.size w)
 have H:((some (([]:List Int):List Int)).bind fun qfo=>(if qfo.length+l1.length<17592186044416 then ((some (qfo++l1:List Int)).bind fun qda=>(Yl.l0 k a2 qda (wrap64 ((qda.length:Int)-1)) Qa Qe Qc QH QG)) else (none)))=some r:=h
 clear h
 obtain ⟨qfo,qiK⟩:∃ y_:List Int,y_=(([]:List Int)):=⟨_,rfl⟩
 replace H:(if qfo.length+l1.length<17592186044416 then ((some (qfo++l1:List Int)).bind fun qda=>(Yl.l0 k a2 qda (wrap64 ((qda.length:Int)-1)) Qa Qe Qc QH QG)) else (none))=some r:=by first|(rw [qiK];with_reducible exact H)|(have H2_:=(Option.bind_some _ _).symm.trans H;rw [qiK];with_reducible exact H2_)|(have H2_:=(Option.bind_some _ _).symm.trans H;with_reducible exact H2_)|with_reducible exact H|(rw [qiK];exact H)|exact H
 have qtF:=Q1.mk qiK
 clear qiK
 by_cases c4:qfo.length+l1.length<17592186044416
 ·
  rw [if_pos c4] at H
  have qFs:=Q1.mk c4
  clear c4
  obtain ⟨qda,qiL⟩:∃ y_:List Int,y_=(qfo++l1):=⟨_,rfl⟩
  replace H:(Yl.l0 k a2 qda (wrap64 ((qda.length:Int)-1)) Qa Qe Qc QH QG)=some r:=by first|(rw [qiL];with_reducible exact H)|(have H2_:=(Option.bind_some _ _).symm.trans H;rw [qiL];with_reducible exact H2_)|(have H2_:=(Option.bind_some _ _).symm.trans H;with_reducible exact H2_)|with_reducible exact H|(rw [qiL];exact H)|exact H
  have qwT:=Q1.mk qiL
  clear qiL
  have H':=Q1.mk H
  clear H
  go_enter Try.func99,Try.ntmps99
  go_wp2_with (first|((with_reducible refine QR (N:=3) rfl ?_);refine Yf ?hg (N:=3) ?hd (cs:=#[.slice Qy Qa.length Qr,.slice Qv Qe.length Qs,.slice Qz Qc.length Qt,.int .i64 QH,.int .i64 QG]) (t:=39) ?hr ?_;(case hd=>rfl);(case hg=>rfl);(case hr=>first|(go_simp;done)|(go_simp;rfl));intro UU hg w5 hbox hb;have n0_:=Q1.mk (Qi (by repeat (first|(with_reducible first|exact HB.out|apply Q2|apply Q0|apply Q3)|exact HB.out)) hb);have n1_:=Q1.mk (hbox);have n2_:=Q1.mk ((by rw [hg];exact (Qf (by repeat (first|(with_reducible first|exact HB.out|apply Q2|apply Q0|apply Q3)|exact HB.out))):w.heap.size≤UU));have n3_:=n2_;clear HB;have HB:=n0_;have G9:=n1_;have qHk:=n2_;have qeD:=n3_;clear n0_ n1_ n2_ n3_ hb hbox hg)|((with_reducible refine QR (N:=10) rfl ?_);refine Kd.R_lit (Kd.int .i64) _ 3 ?hg (N:=10) ?hd (xs:=([]:List Int)) (inner:=[]) (ok:=fun _=>True) (okp:=fun _=>True) ?hr ?hp (fun _ hk=>hk) trivial (Below.refl _ _) (Nat.le_refl _) (by simp) ?_;(case hd=>rfl);(case hg=>rfl);(case hr=>first|(go_simp;done)|(go_simp;rfl));(case hp=>exact (Reps.none _ _));intro qGW w6 ho7 hb hg_ hnew_;clear hg_ hnew_;(first|rw [← qtF.out] at ho7|(simp only [Int.reduceToNat] at ho7;rw [← qtF.out] at ho7));have n0_:=Q1.mk (Kd.R_lower ho7 (Qf (by repeat (first|(with_reducible first|exact HB.out|apply Q2|apply Q0|apply Q3|refine Q7 ?_ qeD.out)|exact HB.out))));have n1_:=Q1.mk (Qg (g:=UU) (by (with_reducible repeat (first|refine Q5 ?_ _|refine Q9 ?_|refine Q4 ?_ _));exact G9.out) hb);have n2_:=Q1.mk (Qi (by repeat (first|(with_reducible first|exact HB.out|apply Q2|apply Q0|apply Q3|refine Q7 ?_ qeD.out)|exact HB.out)) hb);clear G9 HB;have qoo:=n0_;have G9:=n1_;have HB:=n2_;clear n0_ n1_ n2_ hb ho7)|((with_reducible refine Xz (b:=.append) (xs:=#[.tmp 10,.tmp 11]) rfl ?_);at_builtin;refine Kd.R_append_rows (Kd.int .i64) (w0:=w) w.heap.size rfl (.tmp 10) (.tmp 11) 37 3 (.int .i64 0) 8 rfl Try.underlying37 qan rfl (by decide) (by omega) qGW qfo l1 _ _ _ (fun _=>True) (fun _=>False) rfl rfl ?aO ?aR (fun _ _ h=>h) (fun _ h=>h.elim) ?aF ?aB ?aS ?aL ?_;(case aR=>repeat (first|exact (Kd.C_below HR1.out HB.out)|(with_reducible refine Kd.C_alloc ?_ _)|(with_reducible refine Kd.C_drewN ?_ _)|(with_reducible refine Kd.C_drew ?_)));(case aB=>exact (by repeat (first|(with_reducible first|exact HB.out|apply Q2|apply Q0|apply Q3|refine Q7 ?_ qeD.out)|exact HB.out)));(case aF=>exact (fun _ _=>trivial));(case aO=>exact (by (with_reducible repeat (first|apply Kd.R_alloc|apply Kd.R_drewN|apply Kd.R_drew));exact qoo.out));(case aS=>exact (Qf (by repeat (first|(with_reducible first|exact HB.out|apply Q2|apply Q0|apply Q3|refine Q7 ?_ qeD.out)|exact HB.out))));(case aL=>have:=qFs.out;omega);intro qKT w8 ho hb hg hat;rw [← qwT.out] at ho;have n0_:=Q1.mk (Jy (g:=UU) (by (with_reducible repeat (first|refine Q5 ?_ _|refine Q9 ?_|refine Q4 ?_ _));exact G9.out) hg (Kd.R_ne qoo.out G9.out (by decide)));have n1_:=Q1.mk (hb);have n2_:=Q1.mk (ho);clear G9 HB qoo;have G9:=n0_;have HB:=n1_;have qte:=n2_;clear n0_ n1_ n2_ ho hb hg hat;obtain ⟨Ao9,co9,eo9⟩:=Kd.R_slice qte.out;subst eo9))
  go_loopg [2,8] k (fun kq v2 v8 w' => ∃ (qhu:Int) (ZQ:List Int) (Yx:Int),v2 = .int .i64 qhu∧v8 = .int .i64 Yx∧Q1 (Yl.l0 kq qhu ZQ Yx Qa Qe Qc QH QG=some r)∧Q1 (kq≤k)∧Q1 (Kd.R (Kd.int .i64) 3 w' w.heap.size (fun _=>True) (.slice Ao9 qda.length co9) ZQ)∧Q1 (w'.heap[UU]? = some (.cells #[(.slice Qy Qa.length Qr),(.slice Qv Qe.length Qs),(.slice Qz Qc.length Qt),.int .i64 QH,.int .i64 QG] 39 (0,0)))∧Q1 (Below w.heap.size w w'))
  case atStart=>exact ⟨(a2),(qda),(wrap64 ((qda.length:Int)-1)),(by first|rfl|(simp;done)|(simp [*];done)),(by first|rfl|(simp;done)|(simp [*];done)),H',⟨Nat.le_refl _⟩,⟨by (with_reducible repeat (first|apply Kd.R_alloc|apply Kd.R_drewN|apply Kd.R_drew));exact qte.out⟩,⟨by (with_reducible repeat (first|refine Q5 ?_ _|refine Q9 ?_|refine Q4 ?_ _));exact G9.out⟩,⟨by repeat (first|(with_reducible first|exact HB.out|apply Q2|apply Q0|apply Q3|refine Q7 ?_ qeD.out)|exact HB.out)⟩⟩
  case round =>
   clear H'
   try clear c1
   try clear p2
   try clear c4
   try clear p6
   try clear c9
   obtain ⟨qhu,ZQ,Yx,rfl,rfl,HA,HK1,HO_7,G9,HB⟩:=hrel
   have qfO:=(Kd.R_reads' HO_7.out).1
   rw [qfO] at HO_7
   (try simp only [qfO])
   (try simp only [qfO] at G9)
   cases gk with
   | zero=>exact absurd HA.out (by simp [Yl.l0])
   | succ k1 =>
    have H:=HA.out;clear HA;simp only [Yl.l0] at H
    by_cases c10:Yx≥QG
    ·
     rw [if_pos c10] at H;have c10b0:decide (QG≤Yx)=true:=decide_eq_true c10;clear c10
     by_cases c11:0≤Yx
     ·
      rw [if_pos c11] at H;have c11b0:decide (0≤Yx)=true:=decide_eq_true c11;clear c11
      by_cases c12:Yx<(ZQ.length:Int)
      ·
       rw [if_pos c12] at H;have c12b0:decide (Yx<(ZQ.length:Int))=true:=decide_eq_true c12;clear c12;obtain ⟨qiT,qmw⟩:∃ j_:Int,(mn (rd ZQ Yx) qhu)=j_:=⟨_,rfl⟩
       replace H:(Yl.l0 k1 (wrap64 (qhu-(qiT))) (ZQ.set (Yx:Int).toNat (wrap64 ((rd ZQ Yx)-(qiT)))) (wrap64 (Yx-1)) Qa Qe Qc QH QG)=some r:=by first|(rw [qmw] at H;exact H)|(simp only [qmw] at H ⊢;exact H)
       have hji13_:(if qhu<(rd ZQ Yx) then qhu else (rd ZQ Yx))=qiT:=qmw;obtain ⟨qwa,qiM⟩:∃ y_:List Int,y_=(ZQ.set (Yx:Int).toNat (wrap64 ((rd ZQ Yx)-(qiT)))):=⟨_,rfl⟩
       replace H:(Yl.l0 k1 (wrap64 (qhu-(qiT))) qwa (wrap64 (Yx-1)) Qa Qe Qc QH QG)=some r:=by first|(rw [qiM];with_reducible exact H)|(have H2_:=(Option.bind_some _ _).symm.trans H;rw [qiM];with_reducible exact H2_)|(have H2_:=(Option.bind_some _ _).symm.trans H;with_reducible exact H2_)|with_reducible exact H|(rw [qiM];exact H)|exact H
       have qwU:=Q1.mk qiM;clear qiM;have H':=Q1.mk H;clear H;have Jq:wr.cell? ⟨UU,0,none⟩=some (.slice Qy Qa.length Qr):=(Q6 G9.out 0).trans rfl;have Jr:wr.cell? ⟨UU,1,none⟩=some (.slice Qv Qe.length Qs):=(Q6 G9.out 1).trans rfl;have JF:wr.cell? ⟨UU,2,none⟩=some (.slice Qz Qc.length Qt):=(Q6 G9.out 2).trans rfl;have O1:wr.cell? ⟨UU,3,none⟩=some (.int .i64 QH):=(Q6 G9.out 3).trans rfl;have O2:wr.cell? ⟨UU,4,none⟩=some (.int .i64 QG):=(Q6 G9.out 4).trans rfl;have Js:=Q8 G9.out 0;have Jt:=Q8 G9.out 1;have JG:=Q8 G9.out 2;have O7:=Q8 G9.out 3;have O8:=Q8 G9.out 4;have qvt:0≤(Yx:Int):=of_decide_eq_true (by first|(with_reducible assumption)|assumption);have qvN:Yx<(ZQ.length:Int):=of_decide_eq_true (by first|(with_reducible assumption)|assumption);obtain ⟨qxc,qFK,qr8⟩:=Kd.at_int (Kd.R_reads' HO_7.out).2.2 Yx qvt qvN;cases qFK;replace qvt:=eq_true qvt;replace qvN:=eq_true qvN;have qvu:0≤(Yx:Int):=of_decide_eq_true (by first|(with_reducible assumption)|assumption);have qvO:Yx<(ZQ.length:Int):=of_decide_eq_true (by first|(with_reducible assumption)|assumption);obtain ⟨qxd,qFL,qr9⟩:=Kd.at_int (Kd.R_reads' HO_7.out).2.2 Yx qvu qvO;obtain rfl:qxc=qxd:=(by injection qFL);replace qvu:=eq_true qvu;replace qvO:=eq_true qvO;have p14:0≤(Yx:Int):=of_decide_eq_true (by first|(with_reducible assumption)|assumption);have q14:(Yx:Int)<((ZQ.length:Int):Int):=of_decide_eq_true (by first|(with_reducible assumption)|assumption);obtain ⟨qu0,qoK,qjW,qxw,qF9,qJq,qwA⟩:=Kd.R_form HO_7.out (by omega)
       (first|cases qjW|(injection qjW with ea_ en_ ec_;(first|subst ea_|(injection ea_ with ea_;subst ea_));subst ec_;clear en_))
       have qFj:=Q1.mk qxw;have qJo:=Q1.mk qwA;clear qxw qF9 qwA
       (first|simp only [Kx] at qr8|skip)
       (first|simp only [Kx] at qr9|skip)
       obtain ⟨qGS,qGl⟩:=Kd.R_celln 0 HO_7.out (Yx:Int) p14 q14;replace p14:=eq_true p14;replace q14:=eq_true q14;have qun:=Kd.R_putg HO_7.out (Yx:Int) (wrap64 ((rd ZQ Yx)-(qiT)))
       go_wp2_with (first|((with_reducible refine qeX (t:=3) (p:=34) rfl ?_);refine qdI (t:=3) (p:=34) (v:=?vo_w17) (w1:=(wr.setCell ⟨qu0,(Yx:Int).toNat,none⟩ (.int .i64 (wrap64 ((rd ZQ Yx)-(qiT)))))) ?hg ?ho ?hn ?hr ?_;(case ho=>rfl);(case hg=>rfl);(case hn=>rfl);(case hr=>first|(go_simp;done)|(go_simp;rfl));intro w17 hw;have hg:wr.grownBy w17 (some qu0):=(by rw [hw];exact qun.2);have hp_:Kd.R (Kd.int .i64) 3 w17 w.heap.size (fun _=>True) (.slice (some ⟨qu0,0,none⟩) ZQ.length co9) qwa:=(by rw [hw,qwU.out];exact qun.1);clear qun;have n0_:=Q1.mk (hp_);have n1_:=Q1.mk (Jy (g:=UU) (by (with_reducible repeat (first|refine Q5 ?_ _|refine Q9 ?_|refine Q4 ?_ _));exact G9.out) hg (Kd.R_ne HO_7.out G9.out (by decide)));have n2_:=Q1.mk ((by rw [hw];exact Q7 (HB.out) qFj.out:Below w.heap.size w w17));clear HO_7 G9 HB;have HO_7:=n0_;have G9:=n1_;have HB:=n2_;clear n0_ n1_ n2_ hg hw hp_))
       (try simp only [← qfO])
       go_roundg k1
       case measure=>have:=HK1.out;omega
       case rel=>exact ⟨(wrap64 (qhu-(qiT))),(qwa),(wrap64 (Yx-1)),(by first|rfl|(simp;done)|(simp only [← qmw]<;>(first|rfl|simp))|(simp [*];done)),(by first|rfl|(simp;done)|(simp [*];done)),H',⟨by have:=HK1.out;omega⟩,⟨by (try simp only [qfO]);(with_reducible repeat (first|apply Kd.R_alloc|apply Kd.R_drewN|apply Kd.R_drew));exact HO_7.out⟩,⟨by (try simp only [qfO]);(with_reducible repeat (first|refine Q5 ?_ _|refine Q9 ?_|refine Q4 ?_ _));exact G9.out⟩,⟨by repeat (first|(with_reducible first|exact HB.out|apply Q2|apply Q0|apply Q3|refine Q7 ?_ qeD.out)|exact HB.out)⟩⟩
      rw [if_neg c12] at H
      exact absurd H (by simp)
     rw [if_neg c11] at H
     exact absurd H (by simp)
    rw [if_neg c10] at H;have c10b0:decide (QG≤Yx)=false:=decide_eq_false c10;clear c10;obtain rfl:=Option.some.inj H;have UW:wr.cell? ⟨UU,0,none⟩=some (.slice Qy Qa.length Qr):=(Q6 G9.out 0).trans rfl;have UX:wr.cell? ⟨UU,1,none⟩=some (.slice Qv Qe.length Qs):=(Q6 G9.out 1).trans rfl;have UY:wr.cell? ⟨UU,2,none⟩=some (.slice Qz Qc.length Qt):=(Q6 G9.out 2).trans rfl;have qb2:wr.cell? ⟨UU,3,none⟩=some (.int .i64 QH):=(Q6 G9.out 3).trans rfl;have qb3:wr.cell? ⟨UU,4,none⟩=some (.int .i64 QG):=(Q6 G9.out 4).trans rfl;have UZ:=Q8 G9.out 0;have W4:=Q8 G9.out 1;have W5:=Q8 G9.out 2;have qb9:=Q8 G9.out 3;have qca:=Q8 G9.out 4
    go_wp2
    go_ret
    exact ⟨_,by first|rfl|(simp [Qw,Qx]<;>rfl)|(simp [*,Qw,Qx]<;>rfl),by (with_reducible repeat (first|apply Kd.R_alloc|apply Kd.R_drewN|apply Kd.R_drew));exact HO_7.out,by repeat (first|(with_reducible first|exact HB.out|apply Q2|apply Q0|apply Q3|refine Q7 ?_ qeD.out)|exact HB.out)⟩
 rw [if_neg c4] at H
 exact absurd H (by simp)
end
section
attribute [local go_sem] YC YE Z2 Z3 Yr Ys YD YF
def Yp.l0:Nat→List Int→Int→Int→List Int→List Int→List Int→Int→Int→Option (Int)
 | 0,_,_,_,_,_,_,_,_=>none
 | k+1,x1,x5,x6,qsT,qsU,qhz,qsV,qsW=>if x6<(x1.length:Int) then (if 0≤x6 then (if x6<(qhz.length:Int) then (Yp.l0 k x1 (wrap64 (x5+(wrap64 ((rd x1 x6)*(rd qhz x6))))) (wrap64 (x6+1)) qsT qsU qhz qsV qsW) else (none)) else (none)) else (some x5)
def Yp.f (k:Nat) (Qa:List Int) (Qe:List Int) (Qc:List Int) (QH:Int) (QG:Int) (l1:List Int):Option (Int):=Yp.l0 k l1 0 0 Qa Qe Qc QH QG
set_option maxHeartbeats 8000000 in
set_option maxRecDepth 100000 in
theorem Yp.calls (k:Nat) (Qy:Option Addr) (Qr:Nat) (Qa:List Int) (Qv:Option Addr) (Qs:Nat) (Qe:List Int) (Qz:Option Addr) (Qt:Nat) (Qc:List Int) (QH:Int) (QG:Int) (A1:Option Addr) (c1:Nat) (l1:List Int) (r:Int) (w:World) (ZR:Kd.C (Kd.int .i64) w Qy Qa.length Qa) (ZW:Qa.length≤Qr) (ZL:Kd.C (Kd.int .i64) w Qv Qe.length Qe) (ZO:Qe.length≤Qs) (ZM:Kd.C (Kd.int .i64) w Qz Qc.length Qc) (ZP:Qc.length≤Qt) (hr1:Kd.C (Kd.int .i64) w A1 l1.length l1) (hc1:l1.length≤c1) (h:Yp.f k Qa Qe Qc QH QG l1=some r) :
  Calls Try.prog 100 #[.agg #[.slice Qy Qa.length Qr,.slice Qv Qe.length Qs,.slice Qz Qc.length Qt,.int .i64 QH,.int .i64 QG],.slice A1 l1.length c1] w fun e w'=>e = .returned (.int .i64 r)∧Below w.heap.size w w':=by
 have qeZ:=Try.underlying39
 have Z1:=Q1.mk ZR
 have Zh:=Q1.mk ZW
 clear ZR ZW
 have Z0:=Q1.mk ZL
 have Z9:=Q1.mk ZO
 clear ZL ZO
 have YV:=Q1.mk ZM
 have Zd:=Q1.mk ZP
 clear ZM ZP
 have HR1:=Q1.mk hr1
 have HC1:=Q1.mk hc1
 clear hr1 hc1
 have HB:=Q1.mk (Below.refl w.heap.size w)
 have H:(Yp.l0 k l1 0 0 Qa Qe Qc QH QG)=some r:=h
 clear h
 have H':=Q1.mk H
 clear H
 go_enter Try.func100,Try.ntmps100
 go_wp2_with (first|((with_reducible refine QR (N:=2) rfl ?_);refine Yf ?hg (N:=2) ?hd (cs:=#[.slice Qy Qa.length Qr,.slice Qv Qe.length Qs,.slice Qz Qc.length Qt,.int .i64 QH,.int .i64 QG]) (t:=39) ?hr ?_;(case hd=>rfl);(case hg=>rfl);(case hr=>first|(go_simp;done)|(go_simp;rfl));intro WP hg w3 hbox hb;have n0_:=Q1.mk (Qi (by repeat (first|(with_reducible first|exact HB.out|apply Q2|apply Q0|apply Q3)|exact HB.out)) hb);have n1_:=Q1.mk (hbox);have n2_:=Q1.mk ((by rw [hg];exact (Qf (by repeat (first|(with_reducible first|exact HB.out|apply Q2|apply Q0|apply Q3)|exact HB.out))):w.heap.size≤WP));have n3_:=n2_;clear HB;have HB:=n0_;have Wr:=n1_;have qs8:=n2_;have qhU:=n3_;clear n0_ n1_ n2_ n3_ hb hbox hg))
 repeat (go_quiet (first|((with_reducible refine QR (N:=2) rfl ?_);refine Yf ?hg (N:=2) ?hd (cs:=#[.slice Qy Qa.length Qr,.slice Qv Qe.length Qs,.slice Qz Qc.length Qt,.int .i64 QH,.int .i64 QG]) (t:=39) ?hr ?_;(case hd=>rfl);(case hg=>rfl);(case hr=>first|(go_simp;done)|(go_simp;rfl));intro WP hg w3 hbox hb;have n0_:=Q1.mk (Qi (by repeat (first|(with_reducible first|exact HB.out|apply Q2|apply Q0|apply Q3)|exact HB.out)) hb);have n1_:=Q1.mk (hbox);have n2_:=Q1.mk ((by rw [hg];exact (Qf (by repeat (first|(with_reducible first|exact HB.out|apply Q2|apply Q0|apply Q3)|exact HB.out))):w.heap.size≤WP));have n3_:=n2_;clear HB;have HB:=n0_;have Wr:=n1_;have qs8:=n2_;have qhU:=n3_;clear n0_ n1_ n2_ n3_ hb hbox hg));try go_wp2_with (first|((with_reducible refine QR (N:=2) rfl ?_);refine Yf ?hg (N:=2) ?hd (cs:=#[.slice Qy Qa.length Qr,.slice Qv Qe.length Qs,.slice Qz Qc.length Qt,.int .i64 QH,.int .i64 QG]) (t:=39) ?hr ?_;(case hd=>rfl);(case hg=>rfl);(case hr=>first|(go_simp;done)|(go_simp;rfl));intro WP hg w3 hbox hb;have n0_:=Q1.mk (Qi (by repeat (first|(with_reducible first|exact HB.out|apply Q2|apply Q0|apply Q3)|exact HB.out)) hb);have n1_:=Q1.mk (hbox);have n2_:=Q1.mk ((by rw [hg];exact (Qf (by repeat (first|(with_reducible first|exact HB.out|apply Q2|apply Q0|apply Q3)|exact HB.out))):w.heap.size≤WP));have n3_:=n2_;clear HB;have HB:=n0_;have Wr:=n1_;have qs8:=n2_;have qhU:=n3_;clear n0_ n1_ n2_ n3_ hb hbox hg)))
 go_loopg [5,6] k (fun kq v5 v6 w' => ∃ (ZT:Int) (GF:Int),v5 = .int .i64 ZT∧v6 = .int .i64 GF∧Q1 (Yp.l0 kq l1 ZT GF Qa Qe Qc QH QG=some r)∧Q1 (kq≤k)∧Q1 (w'.heap[WP]? = some (.cells #[(.slice Qy Qa.length Qr),(.slice Qv Qe.length Qs),(.slice Qz Qc.length Qt),.int .i64 QH,.int .i64 QG] 39 (0,0)))∧Q1 (Below w.heap.size w w'))
 case atStart=>exact ⟨(0),(0),(by first|rfl|(simp;done)|(simp [*];done)),(by first|rfl|(simp;done)|(simp [*];done)),H',⟨Nat.le_refl _⟩,⟨by (with_reducible repeat (first|refine Q5 ?_ _|refine Q9 ?_|refine Q4 ?_ _));exact Wr.out⟩,⟨by repeat (first|(with_reducible first|exact HB.out|apply Q2|apply Q0|apply Q3|refine Q7 ?_ qhU.out)|exact HB.out)⟩⟩
 case round =>
  clear H'
  try clear c1
  try clear p2
  obtain ⟨ZT,GF,rfl,rfl,HA,HK1,Wr,HB⟩:=hrel
  cases gk with
  | zero=>exact absurd HA.out (by simp [Yp.l0])
  | succ k1 =>
   have H:=HA.out
   clear HA
   simp only [Yp.l0] at H
   by_cases c4:GF<(l1.length:Int)
   ·
    rw [if_pos c4] at H;have c4b0:decide (GF<(l1.length:Int))=true:=decide_eq_true c4;clear c4
    by_cases c5:0≤GF
    ·
     rw [if_pos c5] at H;have c5b0:decide (0≤GF)=true:=decide_eq_true c5;clear c5
     by_cases c6:GF<(Qc.length:Int)
     ·
      rw [if_pos c6] at H;have c6b0:decide (GF<(Qc.length:Int))=true:=decide_eq_true c6;clear c6;have H':=Q1.mk H;clear H;have qvv:0≤(GF:Int):=of_decide_eq_true (by first|(with_reducible assumption)|assumption);have qvP:GF<(l1.length:Int):=of_decide_eq_true (by first|(with_reducible assumption)|assumption);obtain ⟨qHz,qFM,qgR⟩:=Kd.at_int HR1.out GF qvv qvP;cases qFM;replace qgR:=(HB.out.cell (World.block_lt_of_cell? w _ qgR)).trans qgR;replace qvv:=eq_true qvv;replace qvP:=eq_true qvP;have qdf:wr.cell? ⟨WP,0,none⟩=some (.slice Qy Qa.length Qr):=(Q6 Wr.out 0).trans rfl;have qdg:wr.cell? ⟨WP,1,none⟩=some (.slice Qv Qe.length Qs):=(Q6 Wr.out 1).trans rfl;have qdh:wr.cell? ⟨WP,2,none⟩=some (.slice Qz Qc.length Qt):=(Q6 Wr.out 2).trans rfl;have qGj:wr.cell? ⟨WP,3,none⟩=some (.int .i64 QH):=(Q6 Wr.out 3).trans rfl;have qGk:wr.cell? ⟨WP,4,none⟩=some (.int .i64 QG):=(Q6 Wr.out 4).trans rfl;have qdi:=Q8 Wr.out 0;have qdj:=Q8 Wr.out 1;have qdk:=Q8 Wr.out 2;have qGo:=Q8 Wr.out 3;have qGp:=Q8 Wr.out 4;have qvw:0≤(GF:Int):=of_decide_eq_true (by first|(with_reducible assumption)|assumption);have qvQ:GF<(Qc.length:Int):=of_decide_eq_true (by first|(with_reducible assumption)|assumption);obtain ⟨qHA,qFN,qgS⟩:=Kd.at_int YV.out GF qvw qvQ;cases qFN;replace qgS:=(HB.out.cell (World.block_lt_of_cell? w _ qgS)).trans qgS;replace qvw:=eq_true qvw;replace qvQ:=eq_true qvQ
      go_wp2
      repeat (go_quiet (fail);try go_wp2)
      go_roundg k1
      case measure=>have:=HK1.out;omega
      case rel=>exact ⟨(wrap64 (ZT+(wrap64 ((rd l1 GF)*(rd Qc GF))))),(wrap64 (GF+1)),(by first|rfl|(simp;done)|(simp [*];done)),(by first|rfl|(simp;done)|(simp [*];done)),H',⟨by have:=HK1.out;omega⟩,⟨by (with_reducible repeat (first|refine Q5 ?_ _|refine Q9 ?_|refine Q4 ?_ _));exact Wr.out⟩,⟨by repeat (first|(with_reducible first|exact HB.out|apply Q2|apply Q0|apply Q3|refine Q7 ?_ qhU.out)|exact HB.out)⟩⟩
     rw [if_neg c6] at H
     exact absurd H (by simp)
    rw [if_neg c5] at H
    exact absurd H (by simp)
   rw [if_neg c4] at H
   have c4b0:decide (GF<(l1.length:Int))=false:=decide_eq_false c4
   clear c4
   obtain rfl:=Option.some.inj H
   go_wp2
   repeat (go_quiet (fail);try go_wp2)
   go_ret
   exact ⟨by first|rfl|(simp [Qw,Qx]<;>rfl)|(simp [*,Qw,Qx]<;>rfl),by repeat (first|(with_reducible first|exact HB.out|apply Q2|apply Q0|apply Q3|refine Q7 ?_ qhU.out)|exact HB.out)⟩
end
section
attribute [local go_sem] YC YE Z2 Z3 Yr Ys YD YF
def QO.l0:Nat→List Int→Int→List Int→Int→List Int→List Int→List Int→Int→Int→Option (List Int)
 | 0,_,_,_,_,_,_,_,_,_=>none
 | k+1,x1,x2,x7,x8,qsX,qhA,qsY,qsZ,qs0=>if x8<(x1.length:Int) then (if 0≤(mn (wrap64 (x8+1)) (wrap64 ((x1.length:Int)-1))) then (if (mn (wrap64 (x8+1)) (wrap64 ((x1.length:Int)-1)))<(x7.length:Int) then (if 0≤x8 then (if x8<(qhA.length:Int) then (QO.l0 k x1 x2 (x7.set ((mn (wrap64 (x8+1)) (wrap64 ((x1.length:Int)-1))):Int).toNat (wrap64 ((rd x7 (mn (wrap64 (x8+1)) (wrap64 ((x1.length:Int)-1))))+(wrap64 (Int.tdiv (wrap64 ((rd x1 x8)*(rd qhA x8))) 1000))))) (wrap64 (x8+1)) qsX qhA qsY qsZ qs0) else (none)) else (none)) else (none)) else (none)) else (if 0<(x7.length:Int) then (some (x7.set (0:Int).toNat (wrap64 ((rd x7 0)+x2)))) else (none))
def QO.f (k:Nat) (Qa:List Int) (Qe:List Int) (Qc:List Int) (QH:Int) (QG:Int) (l1:List Int) (a2:Int):Option (List Int):=if 0≤(l1.length:Int) then (if ((l1.length:Int):Int).toNat≤35184372088832 then (QO.l0 k l1 a2 (List.replicate ((l1.length:Int):Int).toNat 0) 0 Qa Qe Qc QH QG) else (none)) else (none)
def QO.T5:Bool × List (List Nat × List Nat):=(true,[([],[]),([],[]),([1],[1]),([],[]),([3],[3]),([4],[4]),([2,5],[2,5]),([0,6],[0,6]),([7],[7]),([],[]),([],[]),([9,10],[9,10]),([11],[11]),([],[]),([13],[13]),([],[]),([14,15],[14,15]),([16],[16]),([12,17],[12,17]),([18],[18]),([8,19],[8,19]),([0,6,0,1,2,3,4,5,6,7,8,9,10,11,12,13,14,15,16,17,18,19,20],[0,6]),([21,20,0,1,2,3,4,5,6,7,8,9,10,11,12,13,14,15,16,17,18,19,20],[20,21])])
def QO.B5:List Nat:=[0,0,2,0,8,24,62,127,255,0,0,1536,3584,0,8192,0,57344,122880,261632,523776,1048575,2097151,4194303]
theorem QO.tab5:rtab .any (qaz Try.f101 5)=QO.T5:=by kernel_rfl
theorem QO.bits5:Kr QO.T5.2 QO.B5=true:=by kernel_rfl
set_option maxHeartbeats 8000000 in
set_option maxRecDepth 100000 in
theorem QO.calls (k:Nat) (Qy:Option Addr) (Qr:Nat) (Qa:List Int) (Qv:Option Addr) (Qs:Nat) (Qe:List Int) (Qz:Option Addr) (Qt:Nat) (Qc:List Int) (QH:Int) (QG:Int) (A1:Option Addr) (c1:Nat) (l1:List Int) (a2:Int) (r:List Int) (w:World) (ZR:Kd.C (Kd.int .i64) w Qy Qa.length Qa) (ZW:Qa.length≤Qr) (ZL:Kd.C (Kd.int .i64) w Qv Qe.length Qe) (ZO:Qe.length≤Qs) (ZM:Kd.C (Kd.int .i64) w Qz Qc.length Qc) (ZP:Qc.length≤Qt) (hr1:Kd.C (Kd.int .i64) w A1 l1.length l1) (hc1:l1.length≤c1) (h:QO.f k Qa Qe Qc QH QG l1 a2=some r) :
  Calls Try.prog 101 #[.agg #[.slice Qy Qa.length Qr,.slice Qv Qe.length Qs,.slice Qz Qc.length Qt,.int .i64 QH,.int .i64 QG],.slice A1 l1.length c1,.int .i64 a2] w fun e w' => ∃ v0_:Value,e = .returned (v0_)∧Kd.R (Kd.int .i64) 3 w' w.heap.size (fun _=>True) v0_ r∧Below w.heap.size w w':=by
 have qeZ:=Try.underlying39
 have Z1:=Q1.mk ZR
 have Zh:=Q1.mk ZW
 clear ZR ZW
 have Z0:=Q1.mk ZL
 have Z9:=Q1.mk ZO
 clear ZL ZO
 have YV:=Q1.mk ZM
 have Zd:=Q1.mk ZP
 clear ZM ZP
 have HR1:=Q1.mk hr1
 have HC1:=Q1.mk hc1
 clear hr1 hc1
 have HB:=Q1.mk (Below.refl w.heap.size w)
 have H:(if 0≤(l1.length:Int) then (if ((l1.length:Int):Int).toNat≤35184372088832 then (QO.l0 k l1 a2 (List.replicate ((l1.length:Int):Int).toNat 0) 0 Qa Qe Qc QH QG) else (none)) else (none))=some r:=h
 clear h
 by_cases c4:0≤(l1.length:Int)
 ·
  rw [if_pos c4] at H
  have c4b0:=eq_true c4
  have c4b1:decide (0≤(l1.length:Int))=true:=decide_eq_true c4
  clear c4
  by_cases c5:((l1.length:Int):Int).toNat≤35184372088832
  ·
   rw [if_pos c5] at H
   have c5b0:=eq_true c5
   have c5b1:decide (((l1.length:Int):Int).toNat≤35184372088832)=true:=decide_eq_true c5
   clear c5
   obtain ⟨qzG,qiN⟩:∃ y_:List Int,y_=(List.replicate ((l1.length:Int):Int).toNat 0):=⟨_,rfl⟩
   replace H:(QO.l0 k l1 a2 qzG 0 Qa Qe Qc QH QG)=some r:=by first|(rw [qiN];with_reducible exact H)|(have H2_:=(Option.bind_some _ _).symm.trans H;rw [qiN];with_reducible exact H2_)|(have H2_:=(Option.bind_some _ _).symm.trans H;with_reducible exact H2_)|with_reducible exact H|(rw [qiN];exact H)|exact H
   have qtG:=Q1.mk qiN
   clear qiN
   have H':=Q1.mk H
   clear H
   go_enter Try.func101,Try.ntmps101
   go_wp2_with (first|((with_reducible refine QR (N:=3) rfl ?_);refine Yf ?hg (N:=3) ?hd (cs:=#[.slice Qy Qa.length Qr,.slice Qv Qe.length Qs,.slice Qz Qc.length Qt,.int .i64 QH,.int .i64 QG]) (t:=39) ?hr ?_;(case hd=>rfl);(case hg=>rfl);(case hr=>first|(go_simp;done)|(go_simp;rfl));intro qbj hg w6 hbox hb;have n0_:=Q1.mk (Qi (by repeat (first|(with_reducible first|exact HB.out|apply Q2|apply Q0|apply Q3)|exact HB.out)) hb);have n1_:=Q1.mk (hbox);have n2_:=Q1.mk ((by rw [hg];exact (Qf (by repeat (first|(with_reducible first|exact HB.out|apply Q2|apply Q0|apply Q3)|exact HB.out))):w.heap.size≤qbj));have n3_:=n2_;clear HB;have HB:=n0_;have OQ:=n1_;have qHl:=n2_;have qhV:=n3_;clear n0_ n1_ n2_ n3_ hb hbox hg)|((with_reducible refine QR (N:=11) rfl ?_);refine Kd.R_make (Kd.int .i64) _ 3 rfl (N:=11) rfl 37 _ _ rfl (l1.length:Int) rfl rfl Try.underlying37 (.int .i64 0) 8 qan rfl (by decide) (by omega) 0 (ok:=fun _=>True) (okp:=fun _=>True) rfl (fun _ hk=>hk) trivial (of_decide_eq_true (by first|(with_reducible assumption)|assumption)) (Nat.le_trans (Nat.mul_le_mul_right _ (of_decide_eq_true (by first|(with_reducible assumption)|assumption):(l1.length:Int).toNat≤35184372088832)) (by omega)) (Below.refl _ _) (Nat.le_refl _) ?_;intro qGX w7 ho8 hb hg_ hnew_;clear hg_ hnew_;(first|rw [← qtG.out] at ho8|(simp only [Int.reduceToNat] at ho8;rw [← qtG.out] at ho8));have n0_:=Q1.mk (Kd.R_lower ho8 (Qf (by repeat (first|(with_reducible first|exact HB.out|apply Q2|apply Q0|apply Q3|refine Q7 ?_ qhV.out)|exact HB.out))));have n1_:=Q1.mk (Qg (g:=qbj) (by (with_reducible repeat (first|refine Q5 ?_ _|refine Q9 ?_|refine Q4 ?_ _));exact OQ.out) hb);have n2_:=Q1.mk (Qi (by repeat (first|(with_reducible first|exact HB.out|apply Q2|apply Q0|apply Q3|refine Q7 ?_ qhV.out)|exact HB.out)) hb);clear OQ HB;have qwK:=n0_;have OQ:=n1_;have HB:=n2_;clear n0_ n1_ n2_ hb ho8))
   go_loopg [8] k (fun kq v8 w' => ∃ (ZQ:List Int) (Yx:Int),v8 = .int .i64 Yx∧Q1 (QO.l0 kq l1 a2 ZQ Yx Qa Qe Qc QH QG=some r)∧Q1 (kq≤k)∧Q1 (Kd.R (Kd.int .i64) 3 w' w.heap.size (fun _=>True) qGX ZQ)∧Q1 (w'.heap[qbj]? = some (.cells #[(.slice Qy Qa.length Qr),(.slice Qv Qe.length Qs),(.slice Qz Qc.length Qt),.int .i64 QH,.int .i64 QG] 39 (0,0)))∧Q1 (Below w.heap.size w w'))
   case atStart=>exact ⟨(qzG),(0),(by first|rfl|(simp;done)|(simp [*];done)),H',⟨Nat.le_refl _⟩,⟨by (with_reducible repeat (first|apply Kd.R_alloc|apply Kd.R_drewN|apply Kd.R_drew));exact qwK.out⟩,⟨by (with_reducible repeat (first|refine Q5 ?_ _|refine Q9 ?_|refine Q4 ?_ _));exact OQ.out⟩,⟨by repeat (first|(with_reducible first|exact HB.out|apply Q2|apply Q0|apply Q3|refine Q7 ?_ qhV.out)|exact HB.out)⟩⟩
   case round =>
    clear H';(try clear c1);(try clear p2);(try clear c4);(try clear c4b0);(try clear c4b1);(try clear c5);(try clear c5b0);(try clear c5b1);obtain ⟨ZQ,Yx,rfl,HA,HK1,HO_7,OQ,HB⟩:=hrel
    cases gk with
    | zero=>exact absurd HA.out (by simp [QO.l0])
    | succ k1 =>
     have H:=HA.out;clear HA;simp only [QO.l0] at H
     by_cases c9:Yx<(l1.length:Int)
     ·
      rw [if_pos c9] at H;have c9b0:decide (Yx<(l1.length:Int))=true:=decide_eq_true c9;clear c9;obtain ⟨Xb,qpa⟩:∃ j_:Int,(mn (wrap64 (Yx+1)) (wrap64 ((l1.length:Int)-1)))=j_:=⟨_,rfl⟩
      replace H:(if 0≤(Xb) then (if (Xb)<(ZQ.length:Int) then (if 0≤Yx then (if Yx<(Qe.length:Int) then (QO.l0 k1 l1 a2 (ZQ.set ((Xb):Int).toNat (wrap64 ((rd ZQ (Xb))+(wrap64 (Int.tdiv (wrap64 ((rd l1 Yx)*(rd Qe Yx))) 1000))))) (wrap64 (Yx+1)) Qa Qe Qc QH QG) else (none)) else (none)) else (none)) else (none))=some r:=by first|(rw [qpa] at H;exact H)|(simp only [qpa] at H ⊢;exact H)
      have hji10_:(if (wrap64 ((l1.length:Int)-1))<(wrap64 (Yx+1)) then (wrap64 ((l1.length:Int)-1)) else (wrap64 (Yx+1)))=Xb:=qpa
      by_cases c11:0≤(Xb)
      ·
       rw [if_pos c11] at H;have c11b0:decide (0≤(Xb))=true:=decide_eq_true c11;clear c11
       by_cases c12:(Xb)<(ZQ.length:Int)
       ·
        rw [if_pos c12] at H;have c12b0:decide ((Xb)<(ZQ.length:Int))=true:=decide_eq_true c12;clear c12
        by_cases c13:0≤Yx
        ·
         rw [if_pos c13] at H;have c13b0:decide (0≤Yx)=true:=decide_eq_true c13;clear c13
         by_cases c14:Yx<(Qe.length:Int)
         ·
          rw [if_pos c14] at H;have c14b0:decide (Yx<(Qe.length:Int))=true:=decide_eq_true c14;clear c14;obtain ⟨qzH,qiO⟩:∃ y_:List Int,y_=(ZQ.set ((Xb):Int).toNat (wrap64 ((rd ZQ (Xb))+(wrap64 (Int.tdiv (wrap64 ((rd l1 Yx)*(rd Qe Yx))) 1000))))):=⟨_,rfl⟩
          replace H:(QO.l0 k1 l1 a2 qzH (wrap64 (Yx+1)) Qa Qe Qc QH QG)=some r:=by first|(rw [qiO];with_reducible exact H)|(have H2_:=(Option.bind_some _ _).symm.trans H;rw [qiO];with_reducible exact H2_)|(have H2_:=(Option.bind_some _ _).symm.trans H;with_reducible exact H2_)|with_reducible exact H|(rw [qiO];exact H)|exact H
          have qwV:=Q1.mk qiO;clear qiO;have H':=Q1.mk H;clear H
          try go_wp2
          have n0_:=Q1.mk (Kd.R_drew HO_7.out);have n1_:=Q1.mk (Q9 OQ.out);have n2_:=Q1.mk (Q3 HB.out);clear HO_7 OQ HB;have HO_7:=n0_;have OQ:=n1_;have HB:=n2_;clear n0_ n1_ n2_;obtain ⟨qnc,qnm,qqC⟩:=Kd.R_slice HO_7.out
          (first|subst qqC|(injection qqC with f1_ f2_ f3_;have f4_:=f1_.symm;have f5_:=f3_.symm;clear f1_ f2_ f3_;subst f4_;subst f5_))
          have qvx:0≤((Xb):Int):=of_decide_eq_true (by first|(with_reducible assumption)|assumption);have qvR:(Xb)<(ZQ.length:Int):=of_decide_eq_true (by first|(with_reducible assumption)|assumption);obtain ⟨qHB,qFO,qgT⟩:=Kd.at_int (Kd.R_reads' HO_7.out).2.2 (Xb) qvx qvR;cases qFO;replace qvx:=eq_true qvx;replace qvR:=eq_true qvR;have qvy:0≤(Yx:Int):=of_decide_eq_true (by first|(with_reducible assumption)|assumption);have qvS:Yx<(l1.length:Int):=of_decide_eq_true (by first|(with_reducible assumption)|assumption);obtain ⟨qxe,qFP,qcJ⟩:=Kd.at_int HR1.out Yx qvy qvS;have qmO:=qcJ;cases qFP;replace qcJ:=(HB.out.cell (World.block_lt_of_cell? w _ qcJ)).trans qcJ;replace qvy:=eq_true qvy;replace qvS:=eq_true qvS;have qvz:0≤(Yx:Int):=of_decide_eq_true (by first|(with_reducible assumption)|assumption);have qvT:Yx<(Qe.length:Int):=of_decide_eq_true (by first|(with_reducible assumption)|assumption);obtain ⟨qtM,qFQ,qcK⟩:=Kd.at_int Z0.out Yx qvz qvT;have qmP:=qcK;cases qFQ;replace qcK:=(HB.out.cell (World.block_lt_of_cell? w _ qcK)).trans qcK;replace qvz:=eq_true qvz;replace qvT:=eq_true qvT;have p15:0≤((Xb):Int):=of_decide_eq_true (by first|(with_reducible assumption)|assumption);have q15:((Xb):Int)<((ZQ.length:Int):Int):=of_decide_eq_true (by first|(with_reducible assumption)|assumption);obtain ⟨qGc,qJt,qxr,qxx,qGa,qJr,qwB⟩:=Kd.R_form HO_7.out (by omega)
          (first|cases qxr|(injection qxr with ea_ en_ ec_;(first|subst ea_|(injection ea_ with ea_;subst ea_));subst ec_;clear en_))
          have qFk:=Q1.mk qxx;have qFm:=Q1.mk qwB;clear qxx qGa qwB
          (first|simp only [Kx] at qgT|skip)
          obtain ⟨qvi,qu9⟩:=Kd.R_celln 0 HO_7.out ((Xb):Int) p15 q15;replace p15:=eq_true p15;replace q15:=eq_true q15;have qup:=Kd.R_putn HO_7.out ((Xb):Int) (wrap64 ((rd ZQ (Xb))+(wrap64 (Int.tdiv (wrap64 ((rd l1 Yx)*(rd Qe Yx))) 1000))));rw [← qwV.out] at qup;have qwN:=Q1.mk qup;clear qup;refine OO (n:=23) (S:=fun w'=>w'.cell? ⟨qbj,0,none⟩=some (.slice Qy Qa.length Qr)∧w'.cell? ⟨qbj,1,none⟩=some (.slice (some qtM) Qe.length Qs)∧w'.cell? ⟨qbj,2,none⟩=some (.slice Qz Qc.length Qt)∧w'.cell? ⟨qbj,3,none⟩=some (.int .i64 QH)∧w'.cell? ⟨qbj,4,none⟩=some (.int .i64 QG)∧w'.cell? ⟨qGc,((Xb)).toNat,none⟩=some (.int .i64 (rd ZQ (Xb)))∧w'.cell? (qxe.add (Yx).toNat)=some (.int .i64 (rd l1 Yx))∧w'.cell? (qtM.add (Yx).toNat)=some (.int .i64 (rd Qe Yx))) (ds:=[22]) #[false,false,false,false,false,false,false,false,false,false,false,false,false,false,false,false,false,false,false,false,false,false,false] (by kernel_rfl) rfl rfl ⟨(Q6 OQ.out 0).trans rfl,(Q6 OQ.out 1).trans rfl,(Q6 OQ.out 2).trans rfl,(Q6 OQ.out 3).trans rfl,(Q6 OQ.out 4).trans rfl,qgT,((HB.out.cell (World.block_lt_of_cell? w _ qmO)).trans qmO),((HB.out.cell (World.block_lt_of_cell? w _ qmP)).trans qmP)⟩ (fun hHeld => ?_);refine Gq QO.tab5 QO.bits5 (fun HT_ HW_ => ?_)
          generalize wr.drew=w16 at HO_7 OQ HB qFm qwN qu9 qvi qgT qcJ qcK hHeld ⊢
          refine Y2 (i:=0) (N:=some 18) (v:=?_) (a':=?_) #[true,false,false,false,false,false,false,false,false,false,false,false,false,false,false,false,false,false,false,false,false,false,false] rfl rfl (QJ HT_.out (by kernel_rfl)) (fun _ _ _ h=>h) (Or.inl ⟨by rfl,?_⟩) ?_ ?_
          rotate_left
          ·
           intro w'
           go_simp
           with_reducible rfl
          rotate_left
          ·
           simp only [Act.put,List.setIfInBounds_toArray,List.set_cons_zero,List.set_cons_succ,QC,QD]
           rfl
          refine Y2 (i:=1) (N:=some 19) (v:=?_) (a':=?_) #[true,true,false,false,false,false,false,false,false,false,false,false,false,false,false,false,false,false,false,false,false,false,false] rfl rfl (QJ HT_.out (by kernel_rfl)) (fun _ _ _ h=>h) (Or.inl ⟨by rfl,?_⟩) ?_ ?_
          rotate_left
          ·
           intro w'
           go_simp
           with_reducible rfl
          rotate_left
          ·
           simp only [Act.put,List.setIfInBounds_toArray,List.set_cons_zero,List.set_cons_succ,QC,QD]
           rfl
          refine Y2 (i:=2) (N:=some 20) (v:=?_) (a':=?_) #[true,true,true,false,false,false,false,false,false,false,false,false,false,false,false,false,false,false,false,false,false,false,false] rfl rfl (QJ HT_.out (by kernel_rfl)) (fun _ _ _ h=>h) (Or.inl ⟨by rfl,?_⟩) ?_ ?_
          rotate_left
          ·
           intro w'
           go_simp
           with_reducible rfl
          rotate_left
          ·
           simp only [Act.put,List.setIfInBounds_toArray,List.set_cons_zero,List.set_cons_succ,QC,QD]
           rfl
          refine Y2 (i:=3) (N:=some 21) (v:=?_) (a':=?_) #[true,true,true,true,false,false,false,false,false,false,false,false,false,false,false,false,false,false,false,false,false,false,false] rfl rfl (QJ HT_.out (by kernel_rfl)) (fun _ _ _ h=>h) (Or.inl ⟨by rfl,?_⟩) ?_ ?_
          rotate_left
          ·
           intro w'
           go_simp
           with_reducible rfl
          rotate_left
          ·
           simp only [Act.put,List.setIfInBounds_toArray,List.set_cons_zero,List.set_cons_succ,QC,QD]
           rfl
          refine Y2 (i:=4) (N:=some 22) (v:=?_) (a':=?_) #[true,true,true,true,true,false,false,false,false,false,false,false,false,false,false,false,false,false,false,false,false,false,false] rfl rfl (QJ HT_.out (by kernel_rfl)) (fun _ _ _ h=>h) (Or.inl ⟨by rfl,?_⟩) ?_ ?_
          rotate_left
          ·
           intro w'
           go_simp
           with_reducible rfl
          rotate_left
          ·
           simp only [Act.put,List.setIfInBounds_toArray,List.set_cons_zero,List.set_cons_succ,QC,QD]
           rfl
          refine Y2 (i:=5) (N:=some 23) (v:=?_) (a':=?_) #[true,true,true,true,true,true,false,false,false,false,false,false,false,false,false,false,false,false,false,false,false,false,false] rfl rfl (QJ HT_.out (by kernel_rfl)) (fun _ _ _ h=>h) (Or.inl ⟨by rfl,?_⟩) ?_ ?_
          rotate_left
          ·
           intro w'
           go_simp
           with_reducible rfl
          rotate_left
          ·
           simp only [Act.put,List.setIfInBounds_toArray,List.set_cons_zero,List.set_cons_succ,QC,QD]
           rfl
          refine Y2 (i:=6) (N:=some 24) (v:=?_) (a':=?_) #[true,true,true,true,true,true,true,false,false,false,false,false,false,false,false,false,false,false,false,false,false,false,false] rfl rfl (QJ HT_.out (by kernel_rfl)) (fun _ _ _ h=>h) (Or.inl ⟨by rfl,?_⟩) ?_ ?_
          rotate_left
          ·
           intro w'
           go_simp
           with_reducible rfl
          rotate_left
          ·
           simp only [Act.put,List.setIfInBounds_toArray,List.set_cons_zero,List.set_cons_succ,QC,QD]
           rfl
          refine Y2 (i:=7) (N:=some 25) (v:=?_) (a':=?_) #[true,true,true,true,true,true,true,true,false,false,false,false,false,false,false,false,false,false,false,false,false,false,false] rfl rfl (QJ HT_.out (by kernel_rfl)) (fun _ _ _ h=>h) (Or.inl ⟨by rfl,?_⟩) ?_ ?_
          rotate_left
          ·
           intro w'
           go_simp
           with_reducible rfl
          rotate_left
          ·
           simp only [Act.put,List.setIfInBounds_toArray,List.set_cons_zero,List.set_cons_succ,QC,QD]
           rfl
          refine Y2 (i:=9) (N:=some 27) (v:=?_) (a':=?_) #[true,true,true,true,true,true,true,true,false,true,false,false,false,false,false,false,false,false,false,false,false,false,false] rfl rfl (QJ HT_.out (by kernel_rfl)) (fun _ _ _ h=>h) (Or.inl ⟨by rfl,?_⟩) ?_ ?_
          rotate_left
          ·
           intro w'
           go_simp
           with_reducible rfl
          rotate_left
          ·
           simp only [Act.put,List.setIfInBounds_toArray,List.set_cons_zero,List.set_cons_succ,QC,QD]
           rfl
          refine Y2 (i:=10) (N:=some 28) (v:=?_) (a':=?_) #[true,true,true,true,true,true,true,true,false,true,true,false,false,false,false,false,false,false,false,false,false,false,false] rfl rfl (QJ HT_.out (by kernel_rfl)) (fun _ _ _ h=>h) (Or.inl ⟨by rfl,?_⟩) ?_ ?_
          rotate_left
          ·
           intro w'
           go_simp
           with_reducible rfl
          rotate_left
          ·
           simp only [Act.put,List.setIfInBounds_toArray,List.set_cons_zero,List.set_cons_succ,QC,QD]
           rfl
          refine Y2 (i:=11) (N:=some 29) (v:=?_) (a':=?_) #[true,true,true,true,true,true,true,true,false,true,true,true,false,false,false,false,false,false,false,false,false,false,false] rfl rfl (QJ HT_.out (by kernel_rfl)) (fun _ _ _ h=>h) (Or.inl ⟨by rfl,?_⟩) ?_ ?_
          rotate_left
          ·
           intro w'
           go_simp
           with_reducible rfl
          rotate_left
          ·
           simp only [Act.put,List.setIfInBounds_toArray,List.set_cons_zero,List.set_cons_succ,QC,QD]
           rfl
          refine Y2 (i:=13) (N:=some 31) (v:=?_) (a':=?_) #[true,true,true,true,true,true,true,true,false,true,true,true,false,true,false,false,false,false,false,false,false,false,false] rfl rfl (QJ HT_.out (by kernel_rfl)) (fun _ _ _ h=>h) (Or.inl ⟨by rfl,?_⟩) ?_ ?_
          rotate_left
          ·
           intro w'
           go_simp
           with_reducible rfl
          rotate_left
          ·
           simp only [Act.put,List.setIfInBounds_toArray,List.set_cons_zero,List.set_cons_succ,QC,QD]
           rfl
          refine Y2 (i:=15) (N:=some 33) (v:=?_) (a':=?_) #[true,true,true,true,true,true,true,true,false,true,true,true,false,true,false,true,false,false,false,false,false,false,false] rfl rfl (QJ HT_.out (by kernel_rfl)) (fun _ _ _ h=>h) (Or.inl ⟨by rfl,?_⟩) ?_ ?_
          rotate_left
          ·
           intro w'
           go_simp
           with_reducible rfl
          rotate_left
          ·
           simp only [Act.put,List.setIfInBounds_toArray,List.set_cons_zero,List.set_cons_succ,QC,QD]
           rfl
          refine J8 (i:=8) (N:=some 26) (v:=?_) (a':=?_) #[true,true,true,true,true,true,true,true,true,true,true,true,false,true,false,true,false,false,false,false,false,false,false] rfl rfl (YN HT_.out HW_.out (by kernel_rfl)) (fun _ _ _ h=>h) (Or.inl ⟨by rfl,?_⟩) hHeld ?_ ?_
          rotate_left
          ·
           rintro w' ⟨s0,s1,s2,s3,s4,s5,s6,s7⟩
           go_simp
           with_reducible rfl
          rotate_left
          ·
           simp only [Act.put,List.setIfInBounds_toArray,List.set_cons_zero,List.set_cons_succ,QC,QD]
           rfl
          refine J8 (i:=12) (N:=some 30) (v:=?_) (a':=?_) #[true,true,true,true,true,true,true,true,true,true,true,true,true,true,false,true,false,false,false,false,false,false,false] rfl rfl (YN HT_.out HW_.out (by kernel_rfl)) (fun _ _ _ h=>h) (Or.inl ⟨by rfl,?_⟩) hHeld ?_ ?_
          rotate_left
          ·
           rintro w' ⟨s0,s1,s2,s3,s4,s5,s6,s7⟩
           go_simp
           with_reducible rfl
          rotate_left
          ·
           simp only [Act.put,List.setIfInBounds_toArray,List.set_cons_zero,List.set_cons_succ,QC,QD]
           rfl
          refine J8 (i:=14) (N:=some 32) (v:=?_) (a':=?_) #[true,true,true,true,true,true,true,true,true,true,true,true,true,true,true,true,false,false,false,false,false,false,false] rfl rfl (YN HT_.out HW_.out (by kernel_rfl)) (fun _ _ _ h=>h) (Or.inl ⟨by rfl,?_⟩) hHeld ?_ ?_
          rotate_left
          ·
           rintro w' ⟨s0,s1,s2,s3,s4,s5,s6,s7⟩
           go_simp
           with_reducible rfl
          rotate_left
          ·
           simp only [Act.put,List.setIfInBounds_toArray,List.set_cons_zero,List.set_cons_succ,QC,QD]
           rfl
          refine Y2 (i:=16) (N:=some 34) (v:=?_) (a':=?_) #[true,true,true,true,true,true,true,true,true,true,true,true,true,true,true,true,true,false,false,false,false,false,false] rfl rfl (QJ HT_.out (by kernel_rfl)) (fun _ _ _ h=>h) (Or.inl ⟨by rfl,?_⟩) ?_ ?_
          rotate_left
          ·
           intro w'
           go_simp
           with_reducible rfl
          rotate_left
          ·
           simp only [Act.put,List.setIfInBounds_toArray,List.set_cons_zero,List.set_cons_succ,QC,QD]
           rfl
          refine J8 (i:=17) (N:=some 35) (v:=?_) (a':=?_) #[true,true,true,true,true,true,true,true,true,true,true,true,true,true,true,true,true,true,false,false,false,false,false] rfl rfl (YN HT_.out HW_.out (by kernel_rfl)) (fun _ _ _ h=>h) (Or.inl ⟨by rfl,?_⟩) hHeld ?_ ?_
          rotate_left
          ·
           rintro w' ⟨s0,s1,s2,s3,s4,s5,s6,s7⟩
           go_simp
           with_reducible rfl
          rotate_left
          ·
           simp only [Act.put,List.setIfInBounds_toArray,List.set_cons_zero,List.set_cons_succ,QC,QD]
           rfl
          refine Y2 (i:=18) (N:=some 36) (v:=?_) (a':=?_) #[true,true,true,true,true,true,true,true,true,true,true,true,true,true,true,true,true,true,true,false,false,false,false] rfl rfl (QJ HT_.out (by kernel_rfl)) (fun _ _ _ h=>h) (Or.inl ⟨by rfl,?_⟩) ?_ ?_
          rotate_left
          ·
           intro w'
           go_simp
           with_reducible rfl
          rotate_left
          ·
           simp only [Act.put,List.setIfInBounds_toArray,List.set_cons_zero,List.set_cons_succ,QC,QD]
           rfl
          refine Y2 (i:=19) (N:=some 37) (v:=?_) (a':=?_) #[true,true,true,true,true,true,true,true,true,true,true,true,true,true,true,true,true,true,true,true,false,false,false] rfl rfl (QJ HT_.out (by kernel_rfl)) (fun _ _ _ h=>h) (Or.inl ⟨by rfl,?_⟩) ?_ ?_
          rotate_left
          ·
           intro w'
           go_simp
           with_reducible rfl
          rotate_left
          ·
           simp only [Act.put,List.setIfInBounds_toArray,List.set_cons_zero,List.set_cons_succ,QC,QD]
           rfl
          refine Y2 (i:=20) (N:=some 38) (v:=?_) (a':=?_) #[true,true,true,true,true,true,true,true,true,true,true,true,true,true,true,true,true,true,true,true,true,false,false] rfl rfl (QJ HT_.out (by kernel_rfl)) (fun _ _ _ h=>h) (Or.inl ⟨by rfl,?_⟩) ?_ ?_
          rotate_left
          ·
           intro w'
           go_simp
           with_reducible rfl
          rotate_left
          ·
           simp only [Act.put,List.setIfInBounds_toArray,List.set_cons_zero,List.set_cons_succ,QC,QD]
           rfl
          refine Y2 (i:=21) (N:=some 39) (v:=?_) (a':=?_) #[true,true,true,true,true,true,true,true,true,true,true,true,true,true,true,true,true,true,true,true,true,true,false] rfl rfl (QJ HT_.out (by kernel_rfl)) (fun _ _ _ h=>h) (Or.inl ⟨by rfl,?_⟩) ?_ ?_
          rotate_left
          ·
           intro w'
           go_simp
           with_reducible rfl
          rotate_left
          ·
           simp only [Act.put,List.setIfInBounds_toArray,List.set_cons_zero,List.set_cons_succ,QC,QD]
           rfl
          refine qzs (i:=22) (N:=none) #[true,true,true,true,true,true,true,true,true,true,true,true,true,true,true,true,true,true,true,true,true,true,true] rfl rfl (GD HT_.out (by kernel_rfl)) (by decide) (fun K hK => ?_);refine qmU (w1:=?_) (by rfl) rfl ?_ ?_
          rotate_left
          ·
           go_simp
           rfl
          refine hK.out _ _ ?_;clear hK K;refine Wu (KC HT_.out (by kernel_rfl)) ?_
          try go_wp2
          go_roundg k1
          case measure=>have:=HK1.out;omega
          case rel=>exact ⟨(qzH),(wrap64 (Yx+1)),(by first|rfl|(simp;done)|(simp [*];done)),H',⟨by have:=HK1.out;omega⟩,⟨by (with_reducible repeat (first|apply Kd.R_alloc|apply Kd.R_drewN|apply Kd.R_drew));exact qwN.out⟩,⟨by (with_reducible repeat (first|refine Q5 ?_ _|refine Q9 ?_|refine Q4 ?_ _));refine Qp ?_ (by have h_:=Kd.R_ne HO_7.out OQ.out (by decide);intro e_;exact h_ (by rw [e_];rfl)) _;(with_reducible repeat (first|refine Q5 ?_ _|refine Q9 ?_|refine Q4 ?_ _));exact OQ.out⟩,⟨by repeat (first|(with_reducible first|exact HB.out|apply Q2|apply Q0|apply Q3|refine Q7 ?_ qFk.out|refine Q7 ?_ qhV.out)|exact HB.out)⟩⟩
         rw [if_neg c14] at H
         exact absurd H (by simp)
        rw [if_neg c13] at H
        exact absurd H (by simp)
       rw [if_neg c12] at H
       exact absurd H (by simp)
      rw [if_neg c11] at H
      exact absurd H (by simp)
     rw [if_neg c9] at H;have c9b0:decide (Yx<(l1.length:Int))=false:=decide_eq_false c9;clear c9
     by_cases c19:0<(ZQ.length:Int)
     ·
      rw [if_pos c19] at H;have c19b0:decide (0<(ZQ.length:Int))=true:=decide_eq_true c19;have c19b1:decide (0<ZQ.length)=true:=decide_eq_true (by omega);clear c19;obtain ⟨qzI,qiP⟩:∃ y_:List Int,y_=(ZQ.set (0:Int).toNat (wrap64 ((rd ZQ 0)+a2))):=⟨_,rfl⟩
      replace H:(some qzI)=some r:=by first|(rw [qiP];with_reducible exact H)|(have H2_:=(Option.bind_some _ _).symm.trans H;rw [qiP];with_reducible exact H2_)|(have H2_:=(Option.bind_some _ _).symm.trans H;with_reducible exact H2_)|with_reducible exact H|(rw [qiP];exact H)|exact H
      have qwW:=Q1.mk qiP;clear qiP;obtain rfl:=Option.some.inj H;obtain ⟨qud,qqy,quW⟩:=Kd.R_slice HO_7.out;subst quW;have qvA:0≤(0:Int):=(by omega);have qvU:0<(ZQ.length:Int):=of_decide_eq_true (by first|(with_reducible assumption)|assumption);obtain ⟨qHC,qFR,qgU⟩:=Kd.at_int (Kd.R_reads' HO_7.out).2.2 0 qvA qvU;cases qFR;have qJj:(0<ZQ.length)=True:=eq_true (by omega)
      (try rw [show ((0:Int)).toNat=0 from rfl] at qgU)
      (try rw [Addr.add_zero'] at qgU)
      replace qvA:=eq_true qvA;replace qvU:=eq_true qvU;have p20:0≤(0:Int):=(by omega);have q20:(0:Int)<((ZQ.length:Int):Int):=of_decide_eq_true (by first|(with_reducible assumption)|assumption);have qKp:(0<ZQ.length)=True:=eq_true (by omega);obtain ⟨qu1,quG,qqD,qxy,qGb,qJs,qwC⟩:=Kd.R_form HO_7.out (by omega)
      (first|cases qqD|(injection qqD with ea_ en_ ec_;(first|subst ea_|(injection ea_ with ea_;subst ea_));subst ec_;clear en_))
      have qFl:=Q1.mk qxy;have qJp:=Q1.mk qwC;clear qxy qGb qwC
      (first|simp only [Kx] at qgU|skip)
      obtain ⟨qpk,qo9⟩:=Kd.R_celln 0 HO_7.out (0:Int) p20 q20
      (try rw [show ((0:Int)).toNat=0 from rfl] at qpk)
      (try simp only [Nat.reduceMul,Nat.zero_mul,Nat.zero_add,Nat.reduceAdd] at qpk)
      (try rw [show ((0:Int)).toNat=0 from rfl] at qo9)
      (try simp only [Nat.reduceMul,Nat.zero_mul,Nat.zero_add,Nat.reduceAdd] at qo9)
      replace p20:=eq_true p20;replace q20:=eq_true q20;have quq:=Kd.R_putg HO_7.out (0:Int) (wrap64 ((rd ZQ 0)+a2))
      go_wp2_with (first|((with_reducible refine qeX (t:=3) (p:=45) rfl ?_);refine qdI (t:=3) (p:=45) (v:=?vo_w23) (w1:=(wr.setCell ⟨qu1,(0:Int).toNat,none⟩ (.int .i64 (wrap64 ((rd ZQ 0)+a2))))) ?hg ?ho ?hn ?hr ?_;(case ho=>rfl);(case hg=>rfl);(case hn=>rfl);(case hr=>first|(go_simp;done)|(go_simp;rfl));intro w23 hw;have hg:wr.grownBy w23 (some qu1):=(by rw [hw];exact quq.2);have hp_:Kd.R (Kd.int .i64) 3 w23 w.heap.size (fun _=>True) (.slice (some ⟨qu1,0,none⟩) ZQ.length qqy) qzI:=(by rw [hw,qwW.out];exact quq.1);clear quq;have n0_:=Q1.mk (hp_);have n1_:=Q1.mk (Jy (g:=qbj) (by (with_reducible repeat (first|refine Q5 ?_ _|refine Q9 ?_|refine Q4 ?_ _));exact OQ.out) hg (Kd.R_ne HO_7.out OQ.out (by decide)));have n2_:=Q1.mk ((by rw [hw];exact Q7 (HB.out) qFl.out:Below w.heap.size w w23));clear HO_7 OQ HB;have HO_7:=n0_;have OQ:=n1_;have HB:=n2_;clear n0_ n1_ n2_ hg hw hp_))
      go_ret
      exact ⟨_,by first|rfl|(simp [Qw,Qx]<;>rfl)|(simp [*,Qw,Qx]<;>rfl),by (with_reducible repeat (first|apply Kd.R_alloc|apply Kd.R_drewN|apply Kd.R_drew));exact HO_7.out,by repeat (first|(with_reducible first|exact HB.out|apply Q2|apply Q0|apply Q3|refine Q7 ?_ qhV.out)|exact HB.out)⟩
     rw [if_neg c19] at H
     exact absurd H (by simp)
  rw [if_neg c5] at H
  exact absurd H (by simp)
 rw [if_neg c4] at H
 exact absurd H (by simp)
end
section
attribute [local go_sem] YC YE Z2 Z3 Yr Ys YD YF
def QK.l0:Nat→List Int→List Int→List Int→List Int→Int→List Int→List Int→List Int→Int→Int→Option (List Int)
 | 0,_,_,_,_,_,_,_,_,_,_=>none
 | k+1,x1,x2,x7,x8,x9,qet,qeu,qev,qew,qex=>if x9<(x1.length:Int) then (if 0≤x9 then ((Yl.f k qet qeu qev qew qex x8 (rd x1 x9)).bind fun qaq=>((Yp.f k qet qeu qev qew qex qaq).bind fun qfb=>(if x7.length<17592186044416 then (if x9<(x2.length:Int) then ((QO.f k qet qeu qev qew qex qaq (rd x2 x9)).bind fun qdp=>(QK.l0 k x1 x2 (x7++[qfb]) qdp (wrap64 (x9+1)) qet qeu qev qew qex)) else (none)) else (none)))) else (none)) else (some x7)
def QK.f (k:Nat) (Qa:List Int) (Qe:List Int) (Qc:List Int) (QH:Int) (QG:Int) (l1:List Int) (l2:List Int):Option (List Int):=QK.l0 k l1 l2 ([]:List Int) Qa 0 Qa Qe Qc QH QG
def QK.T6:Bool × List (List Nat × List Nat):=(true,[([],[]),([],[]),([],[]),([],[]),([2,3],[2,3]),([4],[4]),([0,1,5],[0,1,5]),([6,6,0,1,2,3,4,5,6],[6])])
def QK.B6:List Nat:=[0,0,0,0,12,28,63,127]
theorem QK.tab6:rtab .any (qaz Try.f81 6)=QK.T6:=by kernel_rfl
theorem QK.bits6:Kr QK.T6.2 QK.B6=true:=by kernel_rfl
def QK.T8:Bool × List (List Nat × List Nat):=(true,[([],[]),([],[]),([],[]),([],[]),([2,3],[2,3]),([4],[4]),([0,1,5],[0,1,5]),([6,6,0,1,2,3,4,5,6],[6])])
def QK.B8:List Nat:=[0,0,0,0,12,28,63,127]
theorem QK.tab8:rtab .any (qaz Try.f81 8)=QK.T8:=by kernel_rfl
theorem QK.bits8:Kr QK.T8.2 QK.B8=true:=by kernel_rfl
set_option maxHeartbeats 8000000 in
set_option maxRecDepth 100000 in
theorem QK.calls (k:Nat) (P0_0_:Nat→Prop) (Qy:Option Addr) (Qr:Nat) (Qa:List Int) (Qv:Option Addr) (Qs:Nat) (Qe:List Int) (Qz:Option Addr) (Qt:Nat) (Qc:List Int) (QH:Int) (QG:Int) (A1:Option Addr) (c1:Nat) (l1:List Int) (A2:Option Addr) (c2:Nat) (l2:List Int) (r:List Int) (w:World) (qzh:Kd.V (Kd.int .i64) 3 w w.heap.size (fun k_=>P0_0_ k_) (.slice Qy Qa.length Qr) Qa) (ZL:Kd.C (Kd.int .i64) w Qv Qe.length Qe) (ZO:Qe.length≤Qs) (ZM:Kd.C (Kd.int .i64) w Qz Qc.length Qc) (ZP:Qc.length≤Qt) (hr1:Kd.C (Kd.int .i64) w A1 l1.length l1) (hc1:l1.length≤c1) (hr2:Kd.C (Kd.int .i64) w A2 l2.length l2) (hc2:l2.length≤c2) (h:QK.f k Qa Qe Qc QH QG l1 l2=some r) :
  Calls Try.prog 81 #[.agg #[.slice Qy Qa.length Qr,.slice Qv Qe.length Qs,.slice Qz Qc.length Qt,.int .i64 QH,.int .i64 QG],.slice A1 l1.length c1,.slice A2 l2.length c2] w fun e w' => ∃ v0_:Value,e = .returned (v0_)∧Kd.R (Kd.int .i64) 3 w' w.heap.size (fun k_=>(w.heap.size≤k_)) v0_ r∧Below w.heap.size w w':=by
 have qeZ:=Try.underlying39
 have qhZ:=Q1.mk (show Kd.V (Kd.int .i64) 3 w w.heap.size (fun k_=>(P0_0_ k_∨w.heap.size≤k_)) (.slice Qy Qa.length Qr) Qa from Kd.V_mono qzh (fun k_ hk => .inl hk))
 have Z0:=Q1.mk ZL
 have Z9:=Q1.mk ZO
 clear ZL ZO
 have YV:=Q1.mk ZM
 have Zd:=Q1.mk ZP
 clear ZM ZP
 have HR1:=Q1.mk hr1
 have HC1:=Q1.mk hc1
 clear hr1 hc1
 have HR2:=Q1.mk hr2
 have HC2:=Q1.mk hc2
 clear hr2 hc2
 have HB:=Q1.mk (Below.refl w.heap.size w)
 have H:(QK.l0 k l1 l2 ([]:List Int) Qa 0 Qa Qe Qc QH QG)=some r:=h
 clear h
 have H':=Q1.mk H
 clear H
 go_enter Try.func81,Try.ntmps81
 go_wp2_with (first|((with_reducible refine QR (N:=3) rfl ?_);refine Yf ?hg (N:=3) ?hd (cs:=#[.slice Qy Qa.length Qr,.slice Qv Qe.length Qs,.slice Qz Qc.length Qt,.int .i64 QH,.int .i64 QG]) (t:=39) ?hr ?_;(case hd=>rfl);(case hg=>rfl);(case hr=>first|(go_simp;done)|(go_simp;rfl));intro Gz hg w4 hbox hb;have n0_:=Q1.mk (Kd.V_below (Kd.V_elderB (by (with_reducible repeat (first|apply Kd.V_alloc|apply Kd.V_drewN|apply Kd.V_drew));exact qhZ.out) Gz (Nat.le_of_eq hg.symm)) hb);have n1_:=Q1.mk (Qi (by repeat (first|(with_reducible first|exact HB.out|apply Q2|apply Q0|apply Q3)|exact HB.out)) hb);have n2_:=Q1.mk (hbox);have n3_:=Q1.mk ((by rw [hg];exact (Qf (by repeat (first|(with_reducible first|exact HB.out|apply Q2|apply Q0|apply Q3)|exact HB.out))):w.heap.size≤Gz));have n4_:=n3_;clear qhZ HB;have qhZ:=n0_;have HB:=n1_;have Zr:=n2_;have qHm:=n3_;have Xk:=n4_;clear n0_ n1_ n2_ n3_ n4_ hb hbox hg;have qu4:w4.cell? ⟨Gz,0,none⟩=some (.slice Qy Qa.length Qr):=(Q6 Zr.out 0).trans rfl;have qu5:w4.cell? ⟨Gz,1,none⟩=some (.slice Qv Qe.length Qs):=(Q6 Zr.out 1).trans rfl;have qu6:w4.cell? ⟨Gz,2,none⟩=some (.slice Qz Qc.length Qt):=(Q6 Zr.out 2).trans rfl;have qu7:w4.cell? ⟨Gz,3,none⟩=some (.int .i64 QH):=(Q6 Zr.out 3).trans rfl;have qu8:w4.cell? ⟨Gz,4,none⟩=some (.int .i64 QG):=(Q6 Zr.out 4).trans rfl;have qva:=Q8 Zr.out 0;have qvb:=Q8 Zr.out 1;have qvc:=Q8 Zr.out 2;have qvd:=Q8 Zr.out 3;have qve:=Q8 Zr.out 4))
 go_loopg [7,8,9] k (fun kq v7 v8 v9 w' => ∃ (ZQ:List Int) (Yx:List Int) (ZY:Int),v9 = .int .i64 ZY∧Q1 (QK.l0 kq l1 l2 ZQ Yx ZY Qa Qe Qc QH QG=some r)∧Q1 (kq≤k)∧Q1 (Kd.R (Kd.int .i64) 3 w' w.heap.size (fun k_=>(w.heap.size≤k_)) v7 ZQ)∧Q1 (Kd.V (Kd.int .i64) 3 w' w.heap.size (fun k_=>(P0_0_ k_∨w.heap.size≤k_)∧some k_≠(v7:Value).ownBlock∧k_≠Gz) v8 Yx)∧Q1 (Kd.V (Kd.int .i64) 3 w' w.heap.size (fun k_=>(P0_0_ k_∨w.heap.size≤k_)∧some k_≠(v7:Value).ownBlock∧k_≠Gz) (.slice Qy Qa.length Qr) Qa)∧Q1 (w'.heap[Gz]? = some (.cells #[(.slice Qy Qa.length Qr),(.slice Qv Qe.length Qs),(.slice Qz Qc.length Qt),.int .i64 QH,.int .i64 QG] 39 (0,0)))∧Q1 (Below w.heap.size w w'))
 case atStart=>exact ⟨(([]:List Int)),(Qa),(0),(by first|rfl|(simp;done)|(simp [*];done)),H',⟨Nat.le_refl _⟩,⟨by first|exact Kd.R_nil _ _ _ _ _|exact Kd.N_nil _ _ _ _ _|exact Kd.V_nil _ _ _ _ _|exact Kd.Q_nil _ _ _ _ _|exact Kd.S_nil _ _ _ _ _⟩,⟨by (with_reducible repeat (first|apply Kd.V_alloc|apply Kd.V_drewN|apply Kd.V_drew));exact Kd.V_mono qhZ.out (fun _ hk=>⟨hk.1,⟨(by simp [Value.ownBlock]),hk.2⟩⟩)⟩,⟨by (with_reducible repeat (first|apply Kd.V_alloc|apply Kd.V_drewN|apply Kd.V_drew));exact Kd.V_mono qhZ.out (fun _ hk=>⟨hk.1,⟨(by simp [Value.ownBlock]),hk.2⟩⟩)⟩,⟨by (with_reducible repeat (first|refine Q5 ?_ _|refine Q9 ?_|refine Q4 ?_ _));exact Zr.out⟩,⟨by repeat (first|(with_reducible first|exact HB.out|apply Q2|apply Q0|apply Q3|refine Q7 ?_ Xk.out)|exact HB.out)⟩⟩
 case round =>
  clear H'
  try clear c1
  try clear c2
  try clear p2
  try clear qu4
  try clear qu5
  try clear qu6
  try clear qu7
  try clear qu8
  try clear qva
  try clear qvb
  try clear qvc
  try clear qvd
  try clear qve
  obtain ⟨ZQ,Yx,ZY,rfl,HA,HK1,HO_7,HO_8,HO_449000,Zr,HB⟩:=hrel
  cases gk with
  | zero=>exact absurd HA.out (by simp [QK.l0])
  | succ k1 =>
   have H:=HA.out
   clear HA
   simp only [QK.l0] at H
   by_cases c6:ZY<(l1.length:Int)
   ·
    rw [if_pos c6] at H;have c6b0:decide (ZY<(l1.length:Int))=true:=decide_eq_true c6;clear c6
    by_cases c7:0≤ZY
    ·
     rw [if_pos c7] at H;have c7b0:decide (0≤ZY)=true:=decide_eq_true c7;clear c7;replace H:=Option.bind_eq_some_iff.mp H;obtain ⟨qaq,A80,H⟩:=H;replace H:((Yp.f k1 Qa Qe Qc QH QG qaq).bind fun qfb=>(if ZQ.length<17592186044416 then (if ZY<(l2.length:Int) then ((QO.f k1 Qa Qe Qc QH QG qaq (rd l2 ZY)).bind fun qdp=>(QK.l0 k1 l1 l2 (ZQ++[qfb]) qdp (wrap64 (ZY+1)) Qa Qe Qc QH QG)) else (none)) else (none)))=some r:=H;have A8:=Q1.mk A80;clear A80;replace H:=Option.bind_eq_some_iff.mp H;obtain ⟨qfb,A90,H⟩:=H;replace H:(if ZQ.length<17592186044416 then (if ZY<(l2.length:Int) then ((QO.f k1 Qa Qe Qc QH QG qaq (rd l2 ZY)).bind fun qdp=>(QK.l0 k1 l1 l2 (ZQ++[qfb]) qdp (wrap64 (ZY+1)) Qa Qe Qc QH QG)) else (none)) else (none))=some r:=H;have A9:=Q1.mk A90;clear A90
     by_cases c10:ZQ.length<17592186044416
     ·
      rw [if_pos c10] at H;have qwP:=Q1.mk c10;clear c10;obtain ⟨qwb,qiQ⟩:∃ y_:List Int,y_=(ZQ++[qfb]):=⟨_,rfl⟩
      replace H:(if ZY<(l2.length:Int) then ((QO.f k1 Qa Qe Qc QH QG qaq (rd l2 ZY)).bind fun qdp=>(QK.l0 k1 l1 l2 qwb qdp (wrap64 (ZY+1)) Qa Qe Qc QH QG)) else (none))=some r:=by first|(rw [qiQ];with_reducible exact H)|(have H2_:=(Option.bind_some _ _).symm.trans H;rw [qiQ];with_reducible exact H2_)|(have H2_:=(Option.bind_some _ _).symm.trans H;with_reducible exact H2_)|with_reducible exact H|(rw [qiQ];exact H)|exact H
      have qwX:=Q1.mk qiQ;clear qiQ
      by_cases c11:ZY<(l2.length:Int)
      ·
       rw [if_pos c11] at H;have c11b0:decide (ZY<(l2.length:Int))=true:=decide_eq_true c11;clear c11;replace H:=Option.bind_eq_some_iff.mp H;obtain ⟨qdp,qbN,H⟩:=H;replace H:(QK.l0 k1 l1 l2 qwb qdp (wrap64 (ZY+1)) Qa Qe Qc QH QG)=some r:=H;have A12:=Q1.mk qbN;clear qbN;have H':=Q1.mk H;clear H
       try go_wp2
       have n0_:=Q1.mk (Kd.R_drew HO_7.out);have n1_:=Q1.mk (Kd.V_drew HO_8.out);have n2_:=Q1.mk (Kd.V_drew HO_449000.out);have n3_:=Q1.mk (Q9 Zr.out);have n4_:=Q1.mk (Q3 HB.out);clear HO_7 HO_8 HO_449000 Zr HB;have HO_7:=n0_;have HO_8:=n1_;have HO_449000:=n2_;have Zr:=n3_;have HB:=n4_;clear n0_ n1_ n2_ n3_ n4_;have qvB:0≤(ZY:Int):=of_decide_eq_true (by first|(with_reducible assumption)|assumption);have qvV:ZY<(l1.length:Int):=of_decide_eq_true (by first|(with_reducible assumption)|assumption);obtain ⟨qxf,qFS,qcL⟩:=Kd.at_int HR1.out ZY qvB qvV;have qeg:=qcL;cases qFS;replace qcL:=(HB.out.cell (World.block_lt_of_cell? w _ qcL)).trans qcL;replace qvB:=eq_true qvB;replace qvV:=eq_true qvV;obtain ⟨qpZ,qoK,qjW⟩:=Kd.V_slice HO_8.out
       (first|subst qjW|(injection qjW with f1_ f2_ f3_;have f4_:=f1_.symm;have f5_:=f3_.symm;clear f1_ f2_ f3_;subst f4_;subst f5_))
       refine OO (n:=8) (S:=fun w'=>w'.cell? ⟨Gz,0,none⟩=some (.slice Qy Qa.length Qr)∧w'.cell? ⟨Gz,1,none⟩=some (.slice Qv Qe.length Qs)∧w'.cell? ⟨Gz,2,none⟩=some (.slice Qz Qc.length Qt)∧w'.cell? ⟨Gz,3,none⟩=some (.int .i64 QH)∧w'.cell? ⟨Gz,4,none⟩=some (.int .i64 QG)∧w'.cell? (qxf.add (ZY).toNat)=some (.int .i64 (rd l1 ZY))) (ds:=[]) #[false,false,false,false,false,false,false,false] (by kernel_rfl) rfl rfl ⟨(Q6 Zr.out 0).trans rfl,(Q6 Zr.out 1).trans rfl,(Q6 Zr.out 2).trans rfl,(Q6 Zr.out 3).trans rfl,(Q6 Zr.out 4).trans rfl,((HB.out.cell (World.block_lt_of_cell? w _ qeg)).trans qeg)⟩ (fun hHeld => ?_);refine Gq QK.tab6 QK.bits6 (fun HT_ HW_ => ?_)
       generalize wr.drew=w13 at HO_7 HO_8 HO_449000 Zr HB qcL hHeld ⊢
       refine Y2 (i:=1) (N:=some 20) (v:=?_) (a':=?_) #[false,true,false,false,false,false,false,false] rfl rfl (QJ HT_.out (by kernel_rfl)) (fun _ _ _ h=>h) (Or.inl ⟨by rfl,?_⟩) ?_ ?_
       rotate_left
       ·
        intro w'
        go_simp
        with_reducible rfl
       rotate_left
       ·
        simp only [Act.put,List.setIfInBounds_toArray,List.set_cons_zero,List.set_cons_succ,QC,QD]
        rfl
       refine Y2 (i:=2) (N:=some 21) (v:=?_) (a':=?_) #[false,true,true,false,false,false,false,false] rfl rfl (QJ HT_.out (by kernel_rfl)) (fun _ _ _ h=>h) (Or.inl ⟨by rfl,?_⟩) ?_ ?_
       rotate_left
       ·
        intro w'
        go_simp
        with_reducible rfl
       rotate_left
       ·
        simp only [Act.put,List.setIfInBounds_toArray,List.set_cons_zero,List.set_cons_succ,QC,QD]
        rfl
       refine Y2 (i:=3) (N:=some 22) (v:=?_) (a':=?_) #[false,true,true,true,false,false,false,false] rfl rfl (QJ HT_.out (by kernel_rfl)) (fun _ _ _ h=>h) (Or.inl ⟨by rfl,?_⟩) ?_ ?_
       rotate_left
       ·
        intro w'
        go_simp
        with_reducible rfl
       rotate_left
       ·
        simp only [Act.put,List.setIfInBounds_toArray,List.set_cons_zero,List.set_cons_succ,QC,QD]
        rfl
       refine Y2 (i:=4) (N:=some 23) (v:=?_) (a':=?_) #[false,true,true,true,true,false,false,false] rfl rfl (QJ HT_.out (by kernel_rfl)) (fun _ _ _ h=>h) (Or.inl ⟨by rfl,?_⟩) ?_ ?_
       rotate_left
       ·
        intro w'
        go_simp
        with_reducible rfl
       rotate_left
       ·
        simp only [Act.put,List.setIfInBounds_toArray,List.set_cons_zero,List.set_cons_succ,QC,QD]
        rfl
       refine J8 (i:=0) (N:=some 19) (v:=?_) (a':=?_) #[true,true,true,true,true,false,false,false] rfl rfl (YN HT_.out HW_.out (by kernel_rfl)) (fun _ _ _ h=>h) (Or.inl ⟨by rfl,?_⟩) hHeld ?_ ?_
       rotate_left
       ·
        rintro w' ⟨s0,s1,s2,s3,s4,s5⟩
        go_simp
        with_reducible rfl
       rotate_left
       ·
        simp only [Act.put,List.setIfInBounds_toArray,List.set_cons_zero,List.set_cons_succ,QC,QD]
        rfl
       refine J8 (i:=5) (N:=some 24) (v:=?_) (a':=?_) #[true,true,true,true,true,true,false,false] rfl rfl (YN HT_.out HW_.out (by kernel_rfl)) (fun _ _ _ h=>h) (Or.inl ⟨by rfl,?_⟩) hHeld ?_ ?_
       rotate_left
       ·
        rintro w' ⟨s0,s1,s2,s3,s4,s5⟩
        go_simp
        with_reducible rfl
       rotate_left
       ·
        simp only [Act.put,List.setIfInBounds_toArray,List.set_cons_zero,List.set_cons_succ,QC,QD]
        rfl
       refine one_ (i:=6) (N:=some 25) #[true,true,true,true,true,true,true,false] rfl rfl (GD HT_.out (by kernel_rfl)) (by decide) (fun K hK => ?_);refine Wv Try.func99 (by kernel_rfl) rfl #[.agg #[.slice Qy Qa.length Qr,.slice Qv Qe.length Qs,.slice Qz Qc.length Qt,.int .i64 QH,.int .i64 QG],.slice qpZ Yx.length qoK,.int .i64 (rd l1 ZY)] (by rfl) rfl rfl (by (try simp only [List.map_toArray,List.map_cons,List.map_nil]);first|done|rfl|(simp only [List.length_drop,List.length_take];rfl)) ?_
       with_reducible refine (Yl.calls k1 _ _ Qa _ _ Qe _ _ Qc QH QG _ _ Yx (rd l1 ZY) qaq _ ?side1 ?side2 ?side3 ?side4 ?side5 ?side6 ?side7 ?side8 A8.out).mono ?_
       (case side1=>repeat (first|exact (Kd.V_reads' HO_449000.out).2.2|(with_reducible refine Kd.C_alloc ?_ _)|(with_reducible refine Kd.C_drewN ?_ _)|(with_reducible refine Kd.C_drew ?_)))
       (case side2=>exact (Kd.V_reads' HO_449000.out).2.1)
       (case side3=>repeat (first|exact (Kd.C_below Z0.out HB.out)|(with_reducible refine Kd.C_alloc ?_ _)|(with_reducible refine Kd.C_drewN ?_ _)|(with_reducible refine Kd.C_drew ?_)))
       (case side4=>exact Z9.out)
       (case side5=>repeat (first|exact (Kd.C_below YV.out HB.out)|(with_reducible refine Kd.C_alloc ?_ _)|(with_reducible refine Kd.C_drewN ?_ _)|(with_reducible refine Kd.C_drew ?_)))
       (case side6=>exact Zd.out)
       (case side7=>repeat (first|exact (Kd.V_reads' HO_8.out).2.2|(with_reducible refine Kd.C_alloc ?_ _)|(with_reducible refine Kd.C_drewN ?_ _)|(with_reducible refine Kd.C_drew ?_)))
       (case side8=>exact (Kd.V_reads' HO_8.out).2.1)
       rintro e w15 ⟨qKU,rfl,ho0,hb⟩;refine ⟨_,rfl,?_⟩;have n0_:=Q1.mk (Kd.R_elder' (by (with_reducible repeat (first|apply Kd.R_alloc|apply Kd.R_drewN|apply Kd.R_drew));exact HO_7.out) (Kd.R_base ho0) hb);have n1_:=Q1.mk (Kd.V_elder' (by (with_reducible repeat (first|apply Kd.V_alloc|apply Kd.V_drewN|apply Kd.V_drew));exact HO_8.out) (Kd.R_base ho0) hb);have n2_:=Q1.mk (Kd.V_elder' (by (with_reducible repeat (first|apply Kd.V_alloc|apply Kd.V_drewN|apply Kd.V_drew));exact HO_449000.out) (Kd.R_base ho0) hb);have n3_:=Q1.mk (Kd.R_lower (Kd.R_new' (Kd.R_newM (M:=fun k_=>(w.heap.size≤k_)) ho0 (Qf (by repeat (first|(with_reducible first|exact HB.out|apply Q2|apply Q0|apply Q3|refine Q7 ?_ Xk.out)|exact HB.out))) (fun k_ h_=>h_)) (Kd.R_lt (by (with_reducible repeat (first|apply Kd.R_alloc|apply Kd.R_drewN|apply Kd.R_drew));exact HO_7.out))) (Qf (by repeat (first|(with_reducible first|exact HB.out|apply Q2|apply Q0|apply Q3|refine Q7 ?_ Xk.out)|exact HB.out))));have n4_:=Q1.mk (Qg (g:=Gz) (by (with_reducible repeat (first|refine Q5 ?_ _|refine Q9 ?_|refine Q4 ?_ _));exact Zr.out) hb);have n5_:=Q1.mk (Qi (by repeat (first|(with_reducible first|exact HB.out|apply Q2|apply Q0|apply Q3|refine Q7 ?_ Xk.out)|exact HB.out)) hb);clear HO_7 HO_8 HO_449000 Zr HB;have HO_7:=n0_;have HO_8:=n1_;have HO_449000:=n2_;have OT:=n3_;have Zr:=n4_;have HB:=n5_;clear n0_ n1_ n2_ n3_ n4_ n5_
       (try clear hb)
       (try clear hb2)
       (try clear hk)
       (try clear hi)
       (try clear ho0)
       refine hK.out _ _ ⟨(Q6 Zr.out 0).trans rfl,(Q6 Zr.out 1).trans rfl,(Q6 Zr.out 2).trans rfl,(Q6 Zr.out 3).trans rfl,(Q6 Zr.out 4).trans rfl,((HB.out.cell (World.block_lt_of_cell? w _ qeg)).trans qeg)⟩ (fun hHeld => ?_);clear hK K;refine GA (a':=?_) ?_ ?_
       rotate_left
       ·
        show Act.put _ (some 25) _=_
        simp only [Act.put,List.setIfInBounds_toArray,List.set_cons_zero,List.set_cons_succ,QC,QD]
        rfl
       refine Y2 (i:=7) (N:=some 10) (v:=?_) (a':=?_) #[true,true,true,true,true,true,true,true] rfl rfl (QJ HT_.out (by kernel_rfl)) (fun _ _ _ h=>h) (Or.inl ⟨by rfl,?_⟩) ?_ ?_
       rotate_left
       ·
        intro w'
        go_simp
        with_reducible rfl
       rotate_left
       ·
        simp only [Act.put,List.setIfInBounds_toArray,List.set_cons_zero,List.set_cons_succ,QC,QD]
        rfl
       refine Wu (KC HT_.out (by kernel_rfl)) ?_;have O3:w15.cell? ⟨Gz,0,none⟩=some (.slice Qy Qa.length Qr):=(Q6 Zr.out 0).trans rfl;have O4:w15.cell? ⟨Gz,1,none⟩=some (.slice Qv Qe.length Qs):=(Q6 Zr.out 1).trans rfl;have O5:w15.cell? ⟨Gz,2,none⟩=some (.slice Qz Qc.length Qt):=(Q6 Zr.out 2).trans rfl;have qlC:w15.cell? ⟨Gz,3,none⟩=some (.int .i64 QH):=(Q6 Zr.out 3).trans rfl;have qlD:w15.cell? ⟨Gz,4,none⟩=some (.int .i64 QG):=(Q6 Zr.out 4).trans rfl;have O9:=Q8 Zr.out 0;have Oa:=Q8 Zr.out 1;have Ob:=Q8 Zr.out 2;have qlX:=Q8 Zr.out 3;have qlY:=Q8 Zr.out 4;obtain ⟨qnc,qnm,qqC⟩:=Kd.R_slice OT.out;subst qqC
       try go_wp2_with (first|((with_reducible refine Qu (f:=100) rfl ?_);refine Yk (some 29) rfl rfl Try.func100 (by kernel_rfl) rfl #[.agg #[.slice Qy Qa.length Qr,.slice Qv Qe.length Qs,.slice Qz Qc.length Qt,.int .i64 QH,.int .i64 QG],.slice qnc qaq.length qnm] rfl (by (try simp only [List.map_toArray,List.map_cons,List.map_nil]);first|done|rfl|(simp only [List.length_drop,List.length_take];rfl)) ?_;(with_reducible refine (Yp.calls k1 _ _ Qa _ _ Qe _ _ Qc QH QG _ _ qaq qfb _ ?side1 ?side2 ?side3 ?side4 ?side5 ?side6 ?side7 ?side8 A9.out).mono ?_);(case side1=>repeat (first|exact (Kd.V_reads' HO_449000.out).2.2|(with_reducible refine Kd.C_alloc ?_ _)|(with_reducible refine Kd.C_drewN ?_ _)|(with_reducible refine Kd.C_drew ?_)));(case side2=>exact (Kd.V_reads' HO_449000.out).2.1);(case side3=>repeat (first|exact (Kd.C_below Z0.out HB.out)|(with_reducible refine Kd.C_alloc ?_ _)|(with_reducible refine Kd.C_drewN ?_ _)|(with_reducible refine Kd.C_drew ?_)));(case side4=>exact Z9.out);(case side5=>repeat (first|exact (Kd.C_below YV.out HB.out)|(with_reducible refine Kd.C_alloc ?_ _)|(with_reducible refine Kd.C_drewN ?_ _)|(with_reducible refine Kd.C_drew ?_)));(case side6=>exact Zd.out);(case side7=>repeat (first|exact (Kd.R_reads' OT.out).2.2|(with_reducible refine Kd.C_alloc ?_ _)|(with_reducible refine Kd.C_drewN ?_ _)|(with_reducible refine Kd.C_drew ?_)));(case side8=>exact (Kd.R_reads' OT.out).2.1);rintro e w18 ⟨rfl,hb⟩;refine ⟨_,rfl,?_⟩;have n0_:=Q1.mk (Kd.R_below (by (with_reducible repeat (first|apply Kd.R_alloc|apply Kd.R_drewN|apply Kd.R_drew));exact HO_7.out) hb);have n1_:=Q1.mk (Kd.V_below (by (with_reducible repeat (first|apply Kd.V_alloc|apply Kd.V_drewN|apply Kd.V_drew));exact HO_8.out) hb);have n2_:=Q1.mk (Kd.V_below (by (with_reducible repeat (first|apply Kd.V_alloc|apply Kd.V_drewN|apply Kd.V_drew));exact HO_449000.out) hb);have n3_:=Q1.mk (Kd.R_below (by (with_reducible repeat (first|apply Kd.R_alloc|apply Kd.R_drewN|apply Kd.R_drew));exact OT.out) hb);have n4_:=Q1.mk (Qg (g:=Gz) (by (with_reducible repeat (first|refine Q5 ?_ _|refine Q9 ?_|refine Q4 ?_ _));exact Zr.out) hb);have n5_:=Q1.mk (Qi (by repeat (first|(with_reducible first|exact HB.out|apply Q2|apply Q0|apply Q3|refine Q7 ?_ Xk.out)|exact HB.out)) hb);clear HO_7 HO_8 HO_449000 OT Zr HB;have HO_7:=n0_;have HO_8:=n1_;have HO_449000:=n2_;have OT:=n3_;have Zr:=n4_;have HB:=n5_;clear n0_ n1_ n2_ n3_ n4_ n5_;(try clear hb);(try clear hb2);(try clear hk);(try clear hi))|((with_reducible refine Xz (b:=.append) (xs:=#[.tmp 26,.tmp 30]) rfl ?_);at_builtin;refine Kd.R_append (Kd.int .i64) (w0:=w) w.heap.size rfl (.tmp 26) (.tmp 30) 37 3 (.int .i64 0) 8 rfl Try.underlying37 qan rfl (by decide) (by omega) u7 ZQ qfb [.int .i64 qfb] (fun k_=>(w.heap.size≤k_)∧some k_≠(.slice qnc qaq.length qnm:Value).ownBlock) (fun _=>False) rfl rfl ?aP (fun _ hk=>hk.elim) ?aF ?aO ?aB ?aS ?aL ?_;(case aP=>exact rfl);(case aB=>exact (by repeat (first|(with_reducible first|exact HB.out|apply Q2|apply Q0|apply Q3|refine Q7 ?_ Xk.out)|exact HB.out)));(case aF=>exact (fun k_ hk=>⟨(Nat.le_trans (Qf (by repeat (first|(with_reducible first|exact HB.out|apply Q2|apply Q0|apply Q3|refine Q7 ?_ Xk.out)|exact HB.out))) hk),Kd.fresh' (Kd.R_lt (by (with_reducible repeat (first|apply Kd.R_alloc|apply Kd.R_drewN|apply Kd.R_drew));exact OT.out)) k_ hk⟩));(case aO=>exact (by (with_reducible repeat (first|apply Kd.R_alloc|apply Kd.R_drewN|apply Kd.R_drew));exact HO_7.out));(case aS=>exact (Qf (by repeat (first|(with_reducible first|exact HB.out|apply Q2|apply Q0|apply Q3|refine Q7 ?_ Xk.out)|exact HB.out))));(case aL=>have:=qwP.out;omega);intro qKV w19 ho hb hg hat;rw [← qwX.out] at ho;have n0_:=Q1.mk (Kd.V_afterv (ok:=(fun k_=>(P0_0_ k_∨w.heap.size≤k_)∧some k_≠(.slice qnc qaq.length qnm:Value).ownBlock∧k_≠Gz)) (by (with_reducible repeat (first|apply Kd.V_alloc|apply Kd.V_drewN|apply Kd.V_drew));exact Kd.V_mono HO_8.out (fun _ hk=>⟨⟨hk.1.1,⟨hk.2,hk.1.2.2⟩⟩,hk.1.2.1⟩)) hg hat);have n1_:=Q1.mk (Kd.V_afterv (ok:=(fun k_=>(P0_0_ k_∨w.heap.size≤k_)∧some k_≠(.slice qnc qaq.length qnm:Value).ownBlock∧k_≠Gz)) (by (with_reducible repeat (first|apply Kd.V_alloc|apply Kd.V_drewN|apply Kd.V_drew));exact Kd.V_mono HO_449000.out (fun _ hk=>⟨⟨hk.1.1,⟨hk.2,hk.1.2.2⟩⟩,hk.1.2.1⟩)) hg hat);have n2_:=Q1.mk (Jy (g:=Gz) (by (with_reducible repeat (first|refine Q5 ?_ _|refine Q9 ?_|refine Q4 ?_ _));exact Zr.out) hg (Kd.R_ne HO_7.out Zr.out (by decide)));have n3_:=Q1.mk (Kd.R_after (ok:=(fun k_=>(w.heap.size≤k_))) (by (with_reducible repeat (first|apply Kd.R_alloc|apply Kd.R_drewN|apply Kd.R_drew));exact Kd.R_mono OT.out (fun _ hk=>⟨hk.1.1,hk.2⟩)) hg hat);have n4_:=Q1.mk (hb);have n5_:=Q1.mk (ho);clear HO_8 HO_449000 Zr OT HB HO_7;have HO_8:=n0_;have HO_449000:=n1_;have Zr:=n2_;have OT:=n3_;have HB:=n4_;have qbQ:=n5_;clear n0_ n1_ n2_ n3_ n4_ n5_ ho hb hg hat))
       have n0_:=Q1.mk (Kd.V_drew HO_8.out);have n1_:=Q1.mk (Kd.V_drew HO_449000.out);have n2_:=Q1.mk (Kd.R_drew OT.out);have n3_:=Q1.mk (Kd.R_drew qbQ.out);have n4_:=Q1.mk (Q9 Zr.out);have n5_:=Q1.mk (Q3 HB.out);clear HO_8 HO_449000 OT qbQ Zr HB;have HO_8:=n0_;have HO_449000:=n1_;have OT:=n2_;have qbQ:=n3_;have Zr:=n4_;have HB:=n5_;clear n0_ n1_ n2_ n3_ n4_ n5_;have qvC:0≤(ZY:Int):=of_decide_eq_true (by first|(with_reducible assumption)|assumption);have qvW:ZY<(l2.length:Int):=of_decide_eq_true (by first|(with_reducible assumption)|assumption);obtain ⟨qxg,qFT,qcM⟩:=Kd.at_int HR2.out ZY qvC qvW;have qeh:=qcM;cases qFT;replace qcM:=(HB.out.cell (World.block_lt_of_cell? w _ qcM)).trans qcM;replace qvC:=eq_true qvC;replace qvW:=eq_true qvW;refine OO (n:=8) (S:=fun w'=>w'.cell? ⟨Gz,0,none⟩=some (.slice Qy Qa.length Qr)∧w'.cell? ⟨Gz,1,none⟩=some (.slice Qv Qe.length Qs)∧w'.cell? ⟨Gz,2,none⟩=some (.slice Qz Qc.length Qt)∧w'.cell? ⟨Gz,3,none⟩=some (.int .i64 QH)∧w'.cell? ⟨Gz,4,none⟩=some (.int .i64 QG)∧w'.cell? (qxg.add (ZY).toNat)=some (.int .i64 (rd l2 ZY))) (ds:=[]) #[false,false,false,false,false,false,false,false] (by kernel_rfl) rfl rfl ⟨(Q6 Zr.out 0).trans rfl,(Q6 Zr.out 1).trans rfl,(Q6 Zr.out 2).trans rfl,(Q6 Zr.out 3).trans rfl,(Q6 Zr.out 4).trans rfl,((HB.out.cell (World.block_lt_of_cell? w _ qeh)).trans qeh)⟩ (fun hHeld => ?_);refine Gq QK.tab8 QK.bits8 (fun HT_ HW_ => ?_)
       generalize w19.drew=w20 at HO_8 HO_449000 OT qbQ Zr HB qcM hHeld ⊢
       refine Y2 (i:=1) (N:=some 33) (v:=?_) (a':=?_) #[false,true,false,false,false,false,false,false] rfl rfl (QJ HT_.out (by kernel_rfl)) (fun _ _ _ h=>h) (Or.inl ⟨by rfl,?_⟩) ?_ ?_
       rotate_left
       ·
        intro w'
        go_simp
        with_reducible rfl
       rotate_left
       ·
        simp only [Act.put,List.setIfInBounds_toArray,List.set_cons_zero,List.set_cons_succ,QC,QD]
        rfl
       refine Y2 (i:=2) (N:=some 34) (v:=?_) (a':=?_) #[false,true,true,false,false,false,false,false] rfl rfl (QJ HT_.out (by kernel_rfl)) (fun _ _ _ h=>h) (Or.inl ⟨by rfl,?_⟩) ?_ ?_
       rotate_left
       ·
        intro w'
        go_simp
        with_reducible rfl
       rotate_left
       ·
        simp only [Act.put,List.setIfInBounds_toArray,List.set_cons_zero,List.set_cons_succ,QC,QD]
        rfl
       refine Y2 (i:=3) (N:=some 35) (v:=?_) (a':=?_) #[false,true,true,true,false,false,false,false] rfl rfl (QJ HT_.out (by kernel_rfl)) (fun _ _ _ h=>h) (Or.inl ⟨by rfl,?_⟩) ?_ ?_
       rotate_left
       ·
        intro w'
        go_simp
        with_reducible rfl
       rotate_left
       ·
        simp only [Act.put,List.setIfInBounds_toArray,List.set_cons_zero,List.set_cons_succ,QC,QD]
        rfl
       refine Y2 (i:=4) (N:=some 36) (v:=?_) (a':=?_) #[false,true,true,true,true,false,false,false] rfl rfl (QJ HT_.out (by kernel_rfl)) (fun _ _ _ h=>h) (Or.inl ⟨by rfl,?_⟩) ?_ ?_
       rotate_left
       ·
        intro w'
        go_simp
        with_reducible rfl
       rotate_left
       ·
        simp only [Act.put,List.setIfInBounds_toArray,List.set_cons_zero,List.set_cons_succ,QC,QD]
        rfl
       refine J8 (i:=0) (N:=some 32) (v:=?_) (a':=?_) #[true,true,true,true,true,false,false,false] rfl rfl (YN HT_.out HW_.out (by kernel_rfl)) (fun _ _ _ h=>h) (Or.inl ⟨by rfl,?_⟩) hHeld ?_ ?_
       rotate_left
       ·
        rintro w' ⟨s0,s1,s2,s3,s4,s5⟩
        go_simp
        with_reducible rfl
       rotate_left
       ·
        simp only [Act.put,List.setIfInBounds_toArray,List.set_cons_zero,List.set_cons_succ,QC,QD]
        rfl
       refine J8 (i:=5) (N:=some 37) (v:=?_) (a':=?_) #[true,true,true,true,true,true,false,false] rfl rfl (YN HT_.out HW_.out (by kernel_rfl)) (fun _ _ _ h=>h) (Or.inl ⟨by rfl,?_⟩) hHeld ?_ ?_
       rotate_left
       ·
        rintro w' ⟨s0,s1,s2,s3,s4,s5⟩
        go_simp
        with_reducible rfl
       rotate_left
       ·
        simp only [Act.put,List.setIfInBounds_toArray,List.set_cons_zero,List.set_cons_succ,QC,QD]
        rfl
       refine one_ (i:=6) (N:=some 38) #[true,true,true,true,true,true,true,false] rfl rfl (GD HT_.out (by kernel_rfl)) (by decide) (fun K hK => ?_);refine Wv Try.func101 (by kernel_rfl) rfl #[.agg #[.slice Qy Qa.length Qr,.slice Qv Qe.length Qs,.slice Qz Qc.length Qt,.int .i64 QH,.int .i64 QG],.slice qnc qaq.length qnm,.int .i64 (rd l2 ZY)] (by rfl) rfl rfl (by (try simp only [List.map_toArray,List.map_cons,List.map_nil]);first|done|rfl|(simp only [List.length_drop,List.length_take];rfl)) ?_
       with_reducible refine (QO.calls k1 _ _ Qa _ _ Qe _ _ Qc QH QG _ _ qaq (rd l2 ZY) qdp _ ?side1 ?side2 ?side3 ?side4 ?side5 ?side6 ?side7 ?side8 A12.out).mono ?_
       (case side1=>repeat (first|exact (Kd.V_reads' HO_449000.out).2.2|(with_reducible refine Kd.C_alloc ?_ _)|(with_reducible refine Kd.C_drewN ?_ _)|(with_reducible refine Kd.C_drew ?_)))
       (case side2=>exact (Kd.V_reads' HO_449000.out).2.1)
       (case side3=>repeat (first|exact (Kd.C_below Z0.out HB.out)|(with_reducible refine Kd.C_alloc ?_ _)|(with_reducible refine Kd.C_drewN ?_ _)|(with_reducible refine Kd.C_drew ?_)))
       (case side4=>exact Z9.out)
       (case side5=>repeat (first|exact (Kd.C_below YV.out HB.out)|(with_reducible refine Kd.C_alloc ?_ _)|(with_reducible refine Kd.C_drewN ?_ _)|(with_reducible refine Kd.C_drew ?_)))
       (case side6=>exact Zd.out)
       (case side7=>repeat (first|exact (Kd.R_reads' OT.out).2.2|(with_reducible refine Kd.C_alloc ?_ _)|(with_reducible refine Kd.C_drewN ?_ _)|(with_reducible refine Kd.C_drew ?_)))
       (case side8=>exact (Kd.R_reads' OT.out).2.1)
       rintro e w21 ⟨qKW,rfl,ho0,hb⟩;refine ⟨_,rfl,?_⟩;have n0_:=Q1.mk (Kd.V_elder' (by (with_reducible repeat (first|apply Kd.V_alloc|apply Kd.V_drewN|apply Kd.V_drew));exact HO_8.out) (Kd.R_base ho0) hb);have n1_:=Q1.mk (Kd.V_elder' (by (with_reducible repeat (first|apply Kd.V_alloc|apply Kd.V_drewN|apply Kd.V_drew));exact HO_449000.out) (Kd.R_base ho0) hb);have n2_:=Q1.mk (Kd.R_elder' (by (with_reducible repeat (first|apply Kd.R_alloc|apply Kd.R_drewN|apply Kd.R_drew));exact OT.out) (Kd.R_base ho0) hb);have n3_:=Q1.mk (Kd.R_elder' (by (with_reducible repeat (first|apply Kd.R_alloc|apply Kd.R_drewN|apply Kd.R_drew));exact qbQ.out) (Kd.R_base ho0) hb);have n4_:=Q1.mk (Kd.R_lower (Kd.R_new' (Kd.R_new' (Kd.R_newM (M:=fun k_=>(w.heap.size≤k_)) ho0 (Qf (by repeat (first|(with_reducible first|exact HB.out|apply Q2|apply Q0|apply Q3|refine Q7 ?_ Xk.out)|exact HB.out))) (fun k_ h_=>h_)) (Kd.R_lt (by (with_reducible repeat (first|apply Kd.R_alloc|apply Kd.R_drewN|apply Kd.R_drew));exact OT.out))) (Kd.R_lt (by (with_reducible repeat (first|apply Kd.R_alloc|apply Kd.R_drewN|apply Kd.R_drew));exact qbQ.out))) (Qf (by repeat (first|(with_reducible first|exact HB.out|apply Q2|apply Q0|apply Q3|refine Q7 ?_ Xk.out)|exact HB.out))));have n5_:=Q1.mk (Qg (g:=Gz) (by (with_reducible repeat (first|refine Q5 ?_ _|refine Q9 ?_|refine Q4 ?_ _));exact Zr.out) hb);have n6_:=Q1.mk (Qi (by repeat (first|(with_reducible first|exact HB.out|apply Q2|apply Q0|apply Q3|refine Q7 ?_ Xk.out)|exact HB.out)) hb);clear HO_8 HO_449000 OT qbQ Zr HB;have HO_8:=n0_;have HO_449000:=n1_;have OT:=n2_;have qbQ:=n3_;have qwL:=n4_;have Zr:=n5_;have HB:=n6_;clear n0_ n1_ n2_ n3_ n4_ n5_ n6_
       (try clear hb)
       (try clear hb2)
       (try clear hk)
       (try clear hi)
       (try clear ho0)
       refine hK.out _ _ ⟨(Q6 Zr.out 0).trans rfl,(Q6 Zr.out 1).trans rfl,(Q6 Zr.out 2).trans rfl,(Q6 Zr.out 3).trans rfl,(Q6 Zr.out 4).trans rfl,((HB.out.cell (World.block_lt_of_cell? w _ qeh)).trans qeh)⟩ (fun hHeld => ?_);clear hK K;refine GA (a':=?_) ?_ ?_
       rotate_left
       ·
        show Act.put _ (some 38) _=_
        simp only [Act.put,List.setIfInBounds_toArray,List.set_cons_zero,List.set_cons_succ,QC,QD]
        rfl
       refine Y2 (i:=7) (N:=some 8) (v:=?_) (a':=?_) #[true,true,true,true,true,true,true,true] rfl rfl (QJ HT_.out (by kernel_rfl)) (fun _ _ _ h=>h) (Or.inl ⟨by rfl,?_⟩) ?_ ?_
       rotate_left
       ·
        intro w'
        go_simp
        with_reducible rfl
       rotate_left
       ·
        simp only [Act.put,List.setIfInBounds_toArray,List.set_cons_zero,List.set_cons_succ,QC,QD]
        rfl
       refine Wu (KC HT_.out (by kernel_rfl)) ?_
       try go_wp2
       go_roundg k1
       case measure=>have:=HK1.out;omega
       case rel=>exact ⟨(qwb),(qdp),(wrap64 (ZY+1)),(by first|rfl|(simp;done)|(simp [*];done)),H',⟨by have:=HK1.out;omega⟩,⟨by (with_reducible repeat (first|apply Kd.R_alloc|apply Kd.R_drewN|apply Kd.R_drew));exact Kd.R_mono qbQ.out (fun _ hk=>hk.1.1)⟩,⟨Kd.R_V (Kd.R_mono (Kd.R_types qwL.out Zr.out (by decide)) (fun _ hk=>⟨.inr hk.1.1.1.1,hk.1.2,hk.2⟩))⟩,⟨by (with_reducible repeat (first|apply Kd.V_alloc|apply Kd.V_drewN|apply Kd.V_drew));exact Kd.V_mono HO_449000.out (fun _ hk=>⟨hk.1.1.1,⟨hk.1.2,hk.1.1.2.2⟩⟩)⟩,⟨by (with_reducible repeat (first|refine Q5 ?_ _|refine Q9 ?_|refine Q4 ?_ _));exact Zr.out⟩,⟨by repeat (first|(with_reducible first|exact HB.out|apply Q2|apply Q0|apply Q3|refine Q7 ?_ Xk.out)|exact HB.out)⟩⟩
      rw [if_neg c11] at H
      exact absurd H (by simp)
     rw [if_neg c10] at H
     exact absurd H (by simp)
    rw [if_neg c7] at H
    exact absurd H (by simp)
   rw [if_neg c6] at H
   have c6b0:decide (ZY<(l1.length:Int))=false:=decide_eq_false c6
   clear c6
   obtain rfl:=Option.some.inj H
   go_wp2
   go_ret
   exact ⟨_,by first|rfl|(simp [Qw,Qx]<;>rfl)|(simp [*,Qw,Qx]<;>rfl),by (with_reducible repeat (first|apply Kd.R_alloc|apply Kd.R_drewN|apply Kd.R_drew));exact HO_7.out,by repeat (first|(with_reducible first|exact HB.out|apply Q2|apply Q0|apply Q3|refine Q7 ?_ Xk.out)|exact HB.out)⟩
end
section
attribute [local go_sem] YC YE Z2 Z3 Yr Ys YD YF
def G1.f (a0:Int) (a1:Int):Option (Int):=if a1=0 then (none) else (if (Int.tmod a0 a1)<0 then (some (wrap64 ((Int.tmod a0 a1)+a1))) else (some (Int.tmod a0 a1)))
set_option maxHeartbeats 8000000 in
set_option maxRecDepth 100000 in
theorem G1.calls (a0:Int) (a1:Int) (r:Int) (w:World) (h:G1.f a0 a1=some r) :
  Calls Try.prog 36 #[.int .i64 a0,.int .i64 a1] w fun e w'=>e = .returned (.int .i64 r)∧Yz w w':=by
 have H:(if a1=0 then (none) else (if (Int.tmod a0 a1)<0 then (some (wrap64 ((Int.tmod a0 a1)+a1))) else (some (Int.tmod a0 a1))))=some r:=h
 clear h
 by_cases c3:a1=0
 ·
  rw [if_pos c3] at H
  exact absurd H (by simp)
 rw [if_neg c3] at H
 have c3b0:(a1==0)=false:=beq_eq_false_iff_ne.mpr c3
 have c3b1:(a1 != 0)=true:=bne_iff_ne.mpr c3
 by_cases c4:(Int.tmod a0 a1)<0
 ·
  rw [if_pos c4] at H
  have c4b0:decide ((Int.tmod a0 a1)<0)=true:=decide_eq_true c4
  clear c4
  obtain rfl:=Option.some.inj H
  go_enter Try.func36,Try.ntmps36
  go_wp2
  go_ret
  exact ⟨by first|rfl|(simp;done)|(simp [*];done),by repeat (first|exact Yz.refl _|apply Yz.step)⟩
 rw [if_neg c4] at H
 have c4b0:decide ((Int.tmod a0 a1)<0)=false:=decide_eq_false c4
 clear c4
 obtain rfl:=Option.some.inj H
 go_enter Try.func36,Try.ntmps36
 go_wp2
 go_ret
 exact ⟨by first|rfl|(simp;done)|(simp [*];done),by repeat (first|exact Yz.refl _|apply Yz.step)⟩
end
section
attribute [local go_sem] YC YE Z2 Z3 Yr Ys YD YF
def Gi.f (a0:Int) (a1:Int):Option (Int):=(G1.f a0 a1).bind fun qn1=>(if a1=0 then (none) else (some (wrap64 (Int.tdiv (wrap64 (a0-qn1)) a1))))
set_option maxHeartbeats 8000000 in
set_option maxRecDepth 100000 in
theorem Gi.calls (a0:Int) (a1:Int) (r:Int) (w:World) (h:Gi.f a0 a1=some r) :
  Calls Try.prog 47 #[.int .i64 a0,.int .i64 a1] w fun e w'=>e = .returned (.int .i64 r)∧Yz w w':=by
 have H:((G1.f a0 a1).bind fun qn1=>(if a1=0 then (none) else (some (wrap64 (Int.tdiv (wrap64 (a0-qn1)) a1)))))=some r:=h
 clear h
 replace H:=Option.bind_eq_some_iff.mp H
 obtain ⟨qn1,A30,H⟩:=H
 replace H:(if a1=0 then (none) else (some (wrap64 (Int.tdiv (wrap64 (a0-qn1)) a1))))=some r:=H
 have A3:=Q1.mk A30
 clear A30
 by_cases c4:a1=0
 ·
  rw [if_pos c4] at H
  exact absurd H (by simp)
 rw [if_neg c4] at H
 have c4b0:(a1==0)=false:=beq_eq_false_iff_ne.mpr c4
 have c4b1:(a1 != 0)=true:=bne_iff_ne.mpr c4
 obtain rfl:=Option.some.inj H
 go_enter Try.func47,Try.ntmps47
 go_wp2_with (first|((with_reducible refine Qu (f:=36) rfl ?_);refine Yk (some 8) rfl rfl Try.func36 (by kernel_rfl) rfl #[.int .i64 a0,.int .i64 a1] rfl (by (try simp only [List.map_toArray,List.map_cons,List.map_nil]);first|done|rfl|(simp only [List.length_drop,List.length_take];rfl)) ?_;(with_reducible refine (G1.calls a0 a1 qn1 _ A3.out).mono ?_);rintro e w' ⟨rfl,⟨nd,rfl⟩⟩;refine ⟨_,rfl,?_⟩))
 go_ret
 exact ⟨by first|rfl|(simp;done)|(simp [*];done),by repeat (first|exact Yz.refl _|apply Yz.step)⟩
end
section
attribute [local go_sem] YC YE Z2 Z3 Yr Ys YD YF
def GN.f (a0:Int) (a1:Int):Option (Int):=(Gi.f (wrap64 (-a0)) a1).bind fun qn2=>(some (wrap64 (-qn2)))
set_option maxHeartbeats 8000000 in
set_option maxRecDepth 100000 in
theorem GN.calls (a0:Int) (a1:Int) (r:Int) (w:World) (h:GN.f a0 a1=some r) :
  Calls Try.prog 48 #[.int .i64 a0,.int .i64 a1] w fun e w'=>e = .returned (.int .i64 r)∧Yz w w':=by
 have H:((Gi.f (wrap64 (-a0)) a1).bind fun qn2=>(some (wrap64 (-qn2))))=some r:=h
 clear h
 replace H:=Option.bind_eq_some_iff.mp H
 obtain ⟨qn2,A30,H⟩:=H
 replace H:(some (wrap64 (-qn2)))=some r:=H
 have A3:=Q1.mk A30
 clear A30
 obtain rfl:=Option.some.inj H
 go_enter Try.func48,Try.ntmps48
 go_wp2_with (first|((with_reducible refine Qu (f:=47) rfl ?_);refine Yk (some 8) rfl rfl Try.func47 (by kernel_rfl) rfl #[.int .i64 (wrap64 (-a0)),.int .i64 a1] rfl (by (try simp only [List.map_toArray,List.map_cons,List.map_nil]);first|done|rfl|(simp only [List.length_drop,List.length_take];rfl)) ?_;(with_reducible refine (Gi.calls (wrap64 (-a0)) a1 qn2 _ A3.out).mono ?_);rintro e w' ⟨rfl,⟨nd,rfl⟩⟩;refine ⟨_,rfl,?_⟩))
 go_ret
 exact ⟨by first|rfl|(simp;done)|(simp [*];done),by repeat (first|exact Yz.refl _|apply Yz.step)⟩
end
section
attribute [local go_sem] YC YE Z2 Z3 Yr Ys YD YF
mutual
def Qk.l0:Nat→Int→Int→List (S39)→List Int→List (List (List Int))→Option (Int × Int × Int × Bool)
 | 0,_,_,_,_,_=>none
 | k+1,x1,x8,Gx,Oi,KO=>(Yw.f Gx Oi KO).bind fun qjz=>(if x8<qjz then (Qk.l1 k x1 x8 0 Gx Oi KO) else (some (0,0,0,false)))
def Qk.l1:Nat→Int→Int→Int→List (S39)→List Int→List (List (List Int))→Option (Int × Int × Int × Bool)
 | 0,_,_,_,_,_,_=>none
 | k+1,x1,x8,x9,Gx,Oi,KO=>if x9<(Gx.length:Int) then (Qk.l2 k x1 x8 x9 ([]:List Int) 0 Gx Oi KO) else (Qk.l0 k x1 (wrap64 (x8+1)) Gx Oi KO)
def Qk.l2:Nat→Int→Int→Int→List Int→Int→List (S39)→List Int→List (List (List Int))→Option (Int × Int × Int × Bool)
 | 0,_,_,_,_,_,_,_,_=>none
 | k+1,x1,x8,x9,x10,x11,Gx,Oi,KO=>if x11≤x8 then (if 0≤x9 then (if x9<(Oi.length:Int) then ((GN.f (wrap64 (x1*(rd Oi x9))) 100).bind fun qkV=>(if x10.length<17592186044416 then (Qk.l2 k x1 x8 x9 (x10++[qkV]) (wrap64 (x11+1)) Gx Oi KO) else (none))) else (none)) else (none)) else (Qk.l3 k x1 x8 x9 x10 0 Gx Oi KO)
def Qk.l3:Nat→Int→Int→Int→List Int→Int→List (S39)→List Int→List (List (List Int))→Option (Int × Int × Int × Bool)
 | 0,_,_,_,_,_,_,_,_=>none
 | k+1,x1,x8,x9,x10,x12,Gx,Oi,KO=>if x12<(KO.length:Int) then (if 0≤x9 then (if x9<(Gx.length:Int) then (if 0≤x12 then (if x9<((QE KO x12).length:Int) then ((QK.f k ((Qd Gx x9).f0) ((Qd Gx x9).f1) ((Qd Gx x9).f2) ((Qd Gx x9).f3) ((Qd Gx x9).f4) x10 (Ya (QE KO x12) x9)).bind fun qag=>(if 0≤x8 then (if x8<(qag.length:Int) then (if (rd qag x8)<((Qd Gx x9).f3) then (some (x9,x12,x8,true)) else (Qk.l3 k x1 x8 x9 x10 (wrap64 (x12+1)) Gx Oi KO)) else (none)) else (none))) else (none)) else (none)) else (none)) else (none)) else (Qk.l1 k x1 x8 (wrap64 (x9+1)) Gx Oi KO)
end
def Qk.f (k:Nat) (Qa:List (S39)) (Qe:List Int) (Qc:List (List (List Int))) (a1:Int):Option (Int × Int × Int × Bool):=Qk.l0 k a1 0 Qa Qe Qc
def Qk.T15:Bool × List (List Nat × List Nat):=(true,[([],[]),([0],[0]),([],[]),([1,2],[1,2]),([3],[3]),([],[]),([],[]),([6],[6]),([],[]),([7,8],[7,8]),([9],[9]),([],[]),([10,11],[10,11]),([12],[12]),([4,5,13],[4,5,13]),([],[]),([14,15],[14,15]),([16],[16]),([],[]),([18],[18]),([],[]),([19,20],[19,20]),([21],[21]),([22],[22]),([17,23],[17,23])])
def Qk.B15:List Nat:=[0,1,0,7,15,0,0,64,0,448,960,0,4032,8128,16383,0,65535,131071,0,262144,0,1835008,3932160,8126464,16777215]
theorem Qk.tab15:rtab .any (qaz Try.f83 15)=Qk.T15:=by kernel_rfl
theorem Qk.bits15:Kr Qk.T15.2 Qk.B15=true:=by kernel_rfl
set_option maxHeartbeats 8000000 in
set_option maxRecDepth 100000 in
theorem Qk.calls (k:Nat) (Qy:Option Addr) (Qr:Nat) (Qa:List (S39)) (Qv:Option Addr) (Qs:Nat) (Qe:List Int) (Qz:Option Addr) (Qt:Nat) (Qc:List (List (List Int))) (a1:Int) (r1:Int) (r2:Int) (r3:Int) (r4:Bool) (w:World) (ZR:Kd.C k39 w Qy Qa.length Qa) (ZW:Qa.length≤Qr) (ZL:Kd.C (Kd.int .i64) w Qv Qe.length Qe) (ZO:Qe.length≤Qs) (ZM:Kd.C (Kd.slice 37 (Kd.slice 3 (Kd.int .i64))) w Qz Qc.length Qc) (ZP:Qc.length≤Qt) (h:Qk.f k Qa Qe Qc a1=some (r1,r2,r3,r4)) :
  Calls Try.prog 83 #[.agg #[.slice Qy Qa.length Qr,.slice Qv Qe.length Qs,.slice Qz Qc.length Qt],.int .i64 a1] w fun e w'=>e = .returned (.tuple #[.int .i64 r1,.int .i64 r2,.int .i64 r3,.bool r4])∧Below w.heap.size w w':=by
 have qgO:=Try.underlying47
 have qeZ:=Try.underlying39
 have Z1:=Q1.mk ZR
 have Zh:=Q1.mk ZW
 clear ZR ZW
 have Z0:=Q1.mk ZL
 have Z9:=Q1.mk ZO
 clear ZL ZO
 have YV:=Q1.mk ZM
 have Zd:=Q1.mk ZP
 clear ZM ZP
 have HB:=Q1.mk (Below.refl w.heap.size w)
 have H:(Qk.l0 k a1 0 Qa Qe Qc)=some (r1,r2,r3,r4):=h
 clear h
 have H':=Q1.mk H
 clear H
 go_enter Try.func83,Try.ntmps83
 go_wp2_with (first|((with_reducible refine QR (N:=2) rfl ?_);refine Yf ?hg (N:=2) ?hd (cs:=#[.slice Qy Qa.length Qr,.slice Qv Qe.length Qs,.slice Qz Qc.length Qt]) (t:=47) ?hr ?_;(case hd=>rfl);(case hg=>rfl);(case hr=>first|(go_simp;done)|(go_simp;rfl));intro JA hg w3 hbox hb;have n0_:=Q1.mk (Qi (by repeat (first|(with_reducible first|exact HB.out|apply Q2|apply Q0|apply Q3)|exact HB.out)) hb);have n1_:=Q1.mk (hbox);have n2_:=Q1.mk ((by rw [hg];exact (Qf (by repeat (first|(with_reducible first|exact HB.out|apply Q2|apply Q0|apply Q3)|exact HB.out))):w.heap.size≤JA));have n3_:=n2_;clear HB;have HB:=n0_;have YH:=n1_;have qHo:=n2_;have OS:=n3_;clear n0_ n1_ n2_ n3_ hb hbox hg))
 go_loopg [8] k (fun kq v8 w' => ∃ (Yx:Int),v8 = .int .i64 Yx∧Q1 (Qk.l0 kq a1 Yx Qa Qe Qc=some (r1,r2,r3,r4))∧Q1 (kq≤k)∧Q1 (w'.heap[JA]? = some (.cells #[(.slice Qy Qa.length Qr),(.slice Qv Qe.length Qs),(.slice Qz Qc.length Qt)] 47 (0,0)))∧Q1 (Below w.heap.size w w'))
 case atStart=>exact ⟨(0),(by first|rfl|(simp;done)|(simp [*];done)),H',⟨Nat.le_refl _⟩,⟨by (with_reducible repeat (first|refine Q5 ?_ _|refine Q9 ?_|refine Q4 ?_ _));exact YH.out⟩,⟨by repeat (first|(with_reducible first|exact HB.out|apply Q2|apply Q0|apply Q3|refine Q7 ?_ OS.out)|exact HB.out)⟩⟩
 case round =>
  clear H'
  try clear p2
  obtain ⟨Yx,rfl,HA,HK1,YH,HB⟩:=hrel
  cases gk with
  | zero=>exact absurd HA.out (by simp [Qk.l0])
  | succ k1 =>
   have H:=HA.out
   clear HA
   simp only [Qk.l0] at H
   replace H:=Option.bind_eq_some_iff.mp H
   obtain ⟨qjz,A40,H⟩:=H
   replace H:(if Yx<qjz then (Qk.l1 k1 a1 Yx 0 Qa Qe Qc) else (some (0,0,0,false)))=some (r1,r2,r3,r4):=H
   have A4:=Q1.mk A40
   clear A40
   by_cases c5:Yx<qjz
   ·
    rw [if_pos c5] at H;have c5b0:decide (Yx<qjz)=true:=decide_eq_true c5;clear c5;have H':=Q1.mk H;clear H;have Ww:wr.cell? ⟨JA,0,none⟩=some (.slice Qy Qa.length Qr):=(Q6 YH.out 0).trans rfl;have Wx:wr.cell? ⟨JA,1,none⟩=some (.slice Qv Qe.length Qs):=(Q6 YH.out 1).trans rfl;have X9:wr.cell? ⟨JA,2,none⟩=some (.slice Qz Qc.length Qt):=(Q6 YH.out 2).trans rfl;have Wy:=Q8 YH.out 0;have Wz:=Q8 YH.out 1;have Xa:=Q8 YH.out 2
    go_wp2_with (first|((with_reducible refine Qu (f:=84) rfl ?_);refine Yk (some 15) rfl rfl Try.func84 (by kernel_rfl) rfl #[.agg #[.slice Qy Qa.length Qr,.slice Qv Qe.length Qs,.slice Qz Qc.length Qt]] rfl (by (try simp only [List.map_toArray,List.map_cons,List.map_nil]);first|done|rfl|(simp only [List.length_drop,List.length_take];rfl)) ?_;(with_reducible refine (Yw.calls _ _ Qa _ _ Qe _ _ Qc qjz _ ?side1 ?side2 ?side3 ?side4 ?side5 ?side6 A4.out).mono ?_);(case side1=>repeat (first|exact (Kd.C_below Z1.out HB.out)|(with_reducible refine Kd.C_alloc ?_ _)|(with_reducible refine Kd.C_drewN ?_ _)|(with_reducible refine Kd.C_drew ?_)));(case side2=>exact Zh.out);(case side3=>repeat (first|exact (Kd.C_below Z0.out HB.out)|(with_reducible refine Kd.C_alloc ?_ _)|(with_reducible refine Kd.C_drewN ?_ _)|(with_reducible refine Kd.C_drew ?_)));(case side4=>exact Z9.out);(case side5=>repeat (first|exact (Kd.C_below YV.out HB.out)|(with_reducible refine Kd.C_alloc ?_ _)|(with_reducible refine Kd.C_drewN ?_ _)|(with_reducible refine Kd.C_drew ?_)));(case side6=>exact Zd.out);rintro e w7 ⟨rfl,hb⟩;refine ⟨_,rfl,?_⟩;have n0_:=Q1.mk (Qg (g:=JA) (by (with_reducible repeat (first|refine Q5 ?_ _|refine Q9 ?_|refine Q4 ?_ _));exact YH.out) hb);have n1_:=Q1.mk (Qi (by repeat (first|(with_reducible first|exact HB.out|apply Q2|apply Q0|apply Q3|refine Q7 ?_ OS.out)|exact HB.out)) hb);clear YH HB;have YH:=n0_;have HB:=n1_;clear n0_ n1_;(try clear hb);(try clear hb2);(try clear hk);(try clear hi)))
    go_loopg [9] k1 (fun kq v9 w' => ∃ (YJ:Int),v9 = .int .i64 YJ∧Q1 (Qk.l1 kq a1 Yx YJ Qa Qe Qc=some (r1,r2,r3,r4))∧Q1 (kq≤k1)∧Q1 (w'.heap[JA]? = some (.cells #[(.slice Qy Qa.length Qr),(.slice Qv Qe.length Qs),(.slice Qz Qc.length Qt)] 47 (0,0)))∧Q1 (Below w.heap.size w w'))
    case atStart=>exact ⟨(0),(by first|rfl|(simp;done)|(simp [*];done)),H',⟨Nat.le_refl _⟩,⟨by (with_reducible repeat (first|refine Q5 ?_ _|refine Q9 ?_|refine Q4 ?_ _));exact YH.out⟩,⟨by repeat (first|(with_reducible first|exact HB.out|apply Q2|apply Q0|apply Q3|refine Q7 ?_ OS.out)|exact HB.out)⟩⟩
    case round =>
     clear H';(try clear p2);(try clear c5);(try clear c5b0);(try clear Ww);(try clear Wx);(try clear X9);(try clear Wy);(try clear Wz);(try clear Xa);(try clear p2);obtain ⟨YJ,rfl,HA,HK2,YH,HB⟩:=hrel
     cases gk with
     | zero=>exact absurd HA.out (by simp [Qk.l1])
     | succ k2 =>
      have H:=HA.out;clear HA;simp only [Qk.l1] at H
      by_cases c8:YJ<(Qa.length:Int)
      ·
       rw [if_pos c8] at H;have c8b0:decide (YJ<(Qa.length:Int))=true:=decide_eq_true c8;clear c8;have H':=Q1.mk H;clear H;have GH:wr.cell? ⟨JA,0,none⟩=some (.slice Qy Qa.length Qr):=(Q6 YH.out 0).trans rfl;have GI:wr.cell? ⟨JA,1,none⟩=some (.slice Qv Qe.length Qs):=(Q6 YH.out 1).trans rfl;have GJ:wr.cell? ⟨JA,2,none⟩=some (.slice Qz Qc.length Qt):=(Q6 YH.out 2).trans rfl;have GK:=Q8 YH.out 0;have GL:=Q8 YH.out 1;have GM:=Q8 YH.out 2
       go_wp2
       go_loopg [10,11] k2 (fun kq v10 v11 w' => ∃ (WF:List Int) (qc7:Int),v11 = .int .i64 qc7∧Q1 (Qk.l2 kq a1 Yx YJ WF qc7 Qa Qe Qc=some (r1,r2,r3,r4))∧Q1 (kq≤k2)∧Q1 (Kd.R (Kd.int .i64) 3 w' w.heap.size (fun _=>True) v10 WF)∧Q1 (w'.heap[JA]? = some (.cells #[(.slice Qy Qa.length Qr),(.slice Qv Qe.length Qs),(.slice Qz Qc.length Qt)] 47 (0,0)))∧Q1 (Below w.heap.size w w'))
       case atStart=>exact ⟨(([]:List Int)),(0),(by first|rfl|(simp;done)|(simp [*];done)),H',⟨Nat.le_refl _⟩,⟨by first|exact Kd.R_nil _ _ _ _ _|exact Kd.N_nil _ _ _ _ _|exact Kd.V_nil _ _ _ _ _|exact Kd.Q_nil _ _ _ _ _|exact Kd.S_nil _ _ _ _ _⟩,⟨by (with_reducible repeat (first|refine Q5 ?_ _|refine Q9 ?_|refine Q4 ?_ _));exact YH.out⟩,⟨by repeat (first|(with_reducible first|exact HB.out|apply Q2|apply Q0|apply Q3|refine Q7 ?_ OS.out)|exact HB.out)⟩⟩
       case round =>
        clear H';(try clear p2);(try clear c5);(try clear c5b0);(try clear c8);(try clear c8b0);(try clear Ww);(try clear Wx);(try clear X9);(try clear GH);(try clear GI);(try clear GJ);(try clear Wy);(try clear Wz);(try clear Xa);(try clear GK);(try clear GL);(try clear GM);(try clear p2);obtain ⟨WF,qc7,rfl,HA,HK3,HO_10,YH,HB⟩:=hrel
        cases gk with
        | zero=>exact absurd HA.out (by simp [Qk.l2])
        | succ k3 =>
         have H:=HA.out;clear HA;simp only [Qk.l2] at H
         by_cases c10:qc7≤Yx
         ·
          rw [if_pos c10] at H;have c10b0:decide (qc7≤Yx)=true:=decide_eq_true c10;clear c10
          by_cases c11:0≤YJ
          ·
           rw [if_pos c11] at H;have c11b0:decide (0≤YJ)=true:=decide_eq_true c11;clear c11
           by_cases c12:YJ<(Qe.length:Int)
           ·
            rw [if_pos c12] at H;have c12b0:decide (YJ<(Qe.length:Int))=true:=decide_eq_true c12;clear c12;replace H:=Option.bind_eq_some_iff.mp H;obtain ⟨qkV,qob,H⟩:=H;replace H:(if WF.length<17592186044416 then (Qk.l2 k3 a1 Yx YJ (WF++[qkV]) (wrap64 (qc7+1)) Qa Qe Qc) else (none))=some (r1,r2,r3,r4):=H;have A13:=Q1.mk qob;clear qob
            by_cases c14:WF.length<17592186044416
            ·
             rw [if_pos c14] at H;have qwQ:=Q1.mk c14;clear c14;obtain ⟨qzJ,qiR⟩:∃ y_:List Int,y_=(WF++[qkV]):=⟨_,rfl⟩
             replace H:(Qk.l2 k3 a1 Yx YJ qzJ (wrap64 (qc7+1)) Qa Qe Qc)=some (r1,r2,r3,r4):=by first|(rw [qiR];with_reducible exact H)|(have H2_:=(Option.bind_some _ _).symm.trans H;rw [qiR];with_reducible exact H2_)|(have H2_:=(Option.bind_some _ _).symm.trans H;with_reducible exact H2_)|with_reducible exact H|(rw [qiR];exact H)|exact H
             have qwY:=Q1.mk qiR;clear qiR;have H':=Q1.mk H;clear H;have Jq:wr.cell? ⟨JA,0,none⟩=some (.slice Qy Qa.length Qr):=(Q6 YH.out 0).trans rfl;have Jr:wr.cell? ⟨JA,1,none⟩=some (.slice Qv Qe.length Qs):=(Q6 YH.out 1).trans rfl;have JF:wr.cell? ⟨JA,2,none⟩=some (.slice Qz Qc.length Qt):=(Q6 YH.out 2).trans rfl;have Js:=Q8 YH.out 0;have Jt:=Q8 YH.out 1;have JG:=Q8 YH.out 2;have qsp:0≤(YJ:Int):=of_decide_eq_true (by first|(with_reducible assumption)|assumption);have qsy:YJ<(Qe.length:Int):=of_decide_eq_true (by first|(with_reducible assumption)|assumption);obtain ⟨qxk,qF0,qer⟩:=Kd.at_int Z0.out YJ qsp qsy;cases qF0;replace qer:=(HB.out.cell (World.block_lt_of_cell? w _ qer)).trans qer;replace qsp:=eq_true qsp;replace qsy:=eq_true qsy
             go_wp2_with (first|((with_reducible refine Qu (f:=48) rfl ?_);refine Yk (some 39) rfl rfl Try.func48 (by kernel_rfl) rfl #[.int .i64 (wrap64 (a1*(rd Qe YJ))),.int .i64 100] rfl (by (try simp only [List.map_toArray,List.map_cons,List.map_nil]);first|done|rfl|(simp only [List.length_drop,List.length_take];rfl)) ?_;(with_reducible refine (GN.calls (wrap64 (a1*(rd Qe YJ))) 100 qkV _ A13.out).mono ?_);rintro e w' ⟨rfl,⟨nd,rfl⟩⟩;refine ⟨_,rfl,?_⟩)|((with_reducible refine Xz (b:=.append) (xs:=#[.tmp 31,.tmp 40]) rfl ?_);at_builtin;refine Kd.R_append (Kd.int .i64) (w0:=w) w.heap.size rfl (.tmp 31) (.tmp 40) 37 3 (.int .i64 0) 8 rfl Try.underlying37 qan rfl (by decide) (by omega) u10 WF qkV [.int .i64 qkV] (fun _=>True) (fun _=>False) rfl rfl ?aP (fun _ hk=>hk.elim) ?aF ?aO ?aB ?aS ?aL ?_;(case aP=>exact rfl);(case aB=>exact (by repeat (first|(with_reducible first|exact HB.out|apply Q2|apply Q0|apply Q3|refine Q7 ?_ OS.out)|exact HB.out)));(case aF=>exact (fun _ _=>trivial));(case aO=>exact (by (with_reducible repeat (first|apply Kd.R_alloc|apply Kd.R_drewN|apply Kd.R_drew));exact HO_10.out));(case aS=>exact (Qf (by repeat (first|(with_reducible first|exact HB.out|apply Q2|apply Q0|apply Q3|refine Q7 ?_ OS.out)|exact HB.out))));(case aL=>have:=qwQ.out;omega);intro qKX w16 ho hb hg hat;rw [← qwY.out] at ho;have n0_:=Q1.mk (Jy (g:=JA) (by (with_reducible repeat (first|refine Q5 ?_ _|refine Q9 ?_|refine Q4 ?_ _));exact YH.out) hg (Kd.R_ne HO_10.out YH.out (by decide)));have n1_:=Q1.mk (hb);have n2_:=Q1.mk (ho);clear YH HB HO_10;have YH:=n0_;have HB:=n1_;have qwM:=n2_;clear n0_ n1_ n2_ ho hb hg hat))
             go_roundg k3
             case measure=>have:=HK1.out;have:=HK2.out;have:=HK3.out;omega
             case rel=>exact ⟨(qzJ),(wrap64 (qc7+1)),(by first|rfl|(simp;done)|(simp [*];done)),H',⟨by have:=HK1.out;have:=HK2.out;have:=HK3.out;omega⟩,⟨by (with_reducible repeat (first|apply Kd.R_alloc|apply Kd.R_drewN|apply Kd.R_drew));exact qwM.out⟩,⟨by (with_reducible repeat (first|refine Q5 ?_ _|refine Q9 ?_|refine Q4 ?_ _));exact YH.out⟩,⟨by repeat (first|(with_reducible first|exact HB.out|apply Q2|apply Q0|apply Q3|refine Q7 ?_ OS.out)|exact HB.out)⟩⟩
            rw [if_neg c14] at H
            exact absurd H (by simp)
           rw [if_neg c12] at H
           exact absurd H (by simp)
          rw [if_neg c11] at H
          exact absurd H (by simp)
         rw [if_neg c10] at H;have c10b0:decide (qc7≤Yx)=false:=decide_eq_false c10;clear c10;have H':=Q1.mk H;clear H
         go_wp2
         go_loopg [12] k3 (fun kq v12 w' => ∃ (GE:Int),v12 = .int .i64 GE∧Q1 (Qk.l3 kq a1 Yx YJ WF GE Qa Qe Qc=some (r1,r2,r3,r4))∧Q1 (kq≤k3)∧Q1 (Kd.R (Kd.int .i64) 3 w' w.heap.size (fun _=>True) u10 WF)∧Q1 (w'.heap[JA]? = some (.cells #[(.slice Qy Qa.length Qr),(.slice Qv Qe.length Qs),(.slice Qz Qc.length Qt)] 47 (0,0)))∧Q1 (Below w.heap.size w w'))
         case atStart=>exact ⟨(0),(by first|rfl|(simp;done)|(simp [*];done)),H',⟨Nat.le_refl _⟩,⟨by (with_reducible repeat (first|apply Kd.R_alloc|apply Kd.R_drewN|apply Kd.R_drew));exact HO_10.out⟩,⟨by (with_reducible repeat (first|refine Q5 ?_ _|refine Q9 ?_|refine Q4 ?_ _));exact YH.out⟩,⟨by repeat (first|(with_reducible first|exact HB.out|apply Q2|apply Q0|apply Q3|refine Q7 ?_ OS.out)|exact HB.out)⟩⟩
         case round =>
          clear H';(try clear c1);(try clear p2);(try clear c4);(try clear c5);(try clear c5b0);(try clear p5);(try clear q5);(try clear hx5);(try clear p6);(try clear c8);(try clear c8b0);(try clear c10);(try clear c10b0);(try clear c11);(try clear c11b0);(try clear c12);(try clear c12b0);(try clear c14);(try clear Jq);(try clear Jr);(try clear JF);(try clear Ww);(try clear Wx);(try clear X9);(try clear GH);(try clear GI);(try clear GJ);(try clear Js);(try clear Jt);(try clear JG);(try clear Wy);(try clear Wz);(try clear Xa);(try clear GK);(try clear GL);(try clear GM);(try clear qer);(try clear p2);(try clear qsp);(try clear qsy);obtain ⟨GE,rfl,HA,HK4,HO_10,YH,HB⟩:=hrel
          cases gk with
          | zero=>exact absurd HA.out (by simp [Qk.l3])
          | succ k4 =>
           have H:=HA.out;clear HA;simp only [Qk.l3] at H
           by_cases c17:GE<(Qc.length:Int)
           ·
            rw [if_pos c17] at H;have c17b0:decide (GE<(Qc.length:Int))=true:=decide_eq_true c17;clear c17
            by_cases c18:0≤YJ
            ·
             rw [if_pos c18] at H;have c18b0:decide (0≤YJ)=true:=decide_eq_true c18;clear c18
             by_cases c19:YJ<(Qa.length:Int)
             ·
              rw [if_pos c19] at H;have c19b0:decide (YJ<(Qa.length:Int))=true:=decide_eq_true c19;clear c19
              by_cases c20:0≤GE
              ·
               rw [if_pos c20] at H;have c20b0:decide (0≤GE)=true:=decide_eq_true c20;clear c20
               by_cases c21:YJ<((QE Qc GE).length:Int)
               ·
                rw [if_pos c21] at H;have c21b0:decide (YJ<((QE Qc GE).length:Int))=true:=decide_eq_true c21;clear c21;replace H:=Option.bind_eq_some_iff.mp H;obtain ⟨qag,qoc,H⟩:=H;replace H:(if 0≤Yx then (if Yx<(qag.length:Int) then (if (rd qag Yx)<((Qd Qa YJ).f3) then (some (YJ,GE,Yx,true)) else (Qk.l3 k4 a1 Yx YJ WF (wrap64 (GE+1)) Qa Qe Qc)) else (none)) else (none))=some (r1,r2,r3,r4):=H;have A22:=Q1.mk qoc;clear qoc
                by_cases c23:0≤Yx
                ·
                 rw [if_pos c23] at H;have c23b0:decide (0≤Yx)=true:=decide_eq_true c23;clear c23
                 by_cases c24:Yx<(qag.length:Int)
                 ·
                  rw [if_pos c24] at H;have c24b0:decide (Yx<(qag.length:Int))=true:=decide_eq_true c24;clear c24
                  by_cases c25:(rd qag Yx)<((Qd Qa YJ).f3)
                  ·
                   rw [if_pos c25] at H;have c25b0:decide ((rd qag Yx)<((Qd Qa YJ).f3))=true:=decide_eq_true c25;clear c25;simp only [Option.some.injEq,Prod.mk.injEq] at H;obtain ⟨rfl,rfl,rfl,rfl⟩:=H;have qqP:wr.cell? ⟨JA,0,none⟩=some (.slice Qy Qa.length Qr):=(Q6 YH.out 0).trans rfl;have qqQ:wr.cell? ⟨JA,1,none⟩=some (.slice Qv Qe.length Qs):=(Q6 YH.out 1).trans rfl;have qqR:wr.cell? ⟨JA,2,none⟩=some (.slice Qz Qc.length Qt):=(Q6 YH.out 2).trans rfl;have qrt:=Q8 YH.out 0;have qru:=Q8 YH.out 1;have qrv:=Q8 YH.out 2
                   try go_wp2
                   have n0_:=Q1.mk (Kd.R_drew HO_10.out);have n1_:=Q1.mk (Q9 YH.out);have n2_:=Q1.mk (Q3 HB.out);clear HO_10 YH HB;have HO_10:=n0_;have YH:=n1_;have HB:=n2_;clear n0_ n1_ n2_;have qko:0≤(YJ:Int):=of_decide_eq_true (by first|(with_reducible assumption)|assumption);have qkG:YJ<(Qa.length:Int):=of_decide_eq_true (by first|(with_reducible assumption)|assumption);obtain ⟨Jo,qbo,qbr,qbp,qbs,qbq,qbt,quQ,Oc,Od,Oe,U8,U9,qcy,qcl,qcz,qcm,qcA,qcn⟩:=qat Z1.out YJ qko qkG;have Wa:=U9;have W9:=U8;have W8:=Oe;have W7:=Od;have W6:=Oc;cases quQ;replace Oc:=(HB.out.cell (World.block_lt_of_cell? w _ Oc)).trans Oc;replace Od:=(HB.out.cell (World.block_lt_of_cell? w _ Od)).trans Od;replace Oe:=(HB.out.cell (World.block_lt_of_cell? w _ Oe)).trans Oe;replace U8:=(HB.out.cell (World.block_lt_of_cell? w _ U8)).trans U8;replace U9:=(HB.out.cell (World.block_lt_of_cell? w _ U9)).trans U9;have qbS:=Q1.mk qcl;have qf1:=Q1.mk qcy;clear qcl qcy;have qbT:=Q1.mk qcm;have qf2:=Q1.mk qcz;clear qcm qcz;have qbU:=Q1.mk qcn;have qf3:=Q1.mk qcA;clear qcn qcA;replace qko:=eq_true qko;replace qkG:=eq_true qkG;have qkp:0≤(GE:Int):=of_decide_eq_true (by first|(with_reducible assumption)|assumption);have qkH:GE<(Qc.length:Int):=of_decide_eq_true (by first|(with_reducible assumption)|assumption);obtain ⟨qeN,qt8,qjU,quR,Ua,qcB,qco⟩:=qbh YV.out GE qkp qkH;have Wc:=Ua;cases quR;replace Ua:=(HB.out.cell (World.block_lt_of_cell? w _ Ua)).trans Ua;have qbV:=Q1.mk qco;have qqe:=Q1.mk qcB;clear qco qcB;replace qkp:=eq_true qkp;replace qkH:=eq_true qkH;have qkq:0≤(YJ:Int):=of_decide_eq_true (by first|(with_reducible assumption)|assumption);have qkI:YJ<((QE Qc GE).length:Int):=of_decide_eq_true (by first|(with_reducible assumption)|assumption);obtain ⟨qh2,qeA,qeQ,quS,Ub,qcC,qcp⟩:=qdA qbV.out YJ qkq qkI;have Wd:=Ub;cases quS;replace Ub:=(HB.out.cell (World.block_lt_of_cell? w _ Ub)).trans Ub;have qbW:=Q1.mk qcp;have qf4:=Q1.mk qcC;clear qcp qcC;replace qkq:=eq_true qkq;replace qkI:=eq_true qkI;have qks:0≤(YJ:Int):=of_decide_eq_true (by first|(with_reducible assumption)|assumption);have qkK:YJ<(Qa.length:Int):=of_decide_eq_true (by first|(with_reducible assumption)|assumption);obtain ⟨qoD,qt9,quB,qua,quC,qub,quD,quU,Of,Og,Oh,Uc,Ud,qcD,qcq,qcE,qcr,qcF,qcs⟩:=qat Z1.out YJ qks qkK;have Wk:=Ud;have Wj:=Uc;have Wi:=Oh;have Wh:=Og;have Wg:=Of;obtain rfl:Jo=qoD:=(by injection quU);replace Of:=(HB.out.cell (World.block_lt_of_cell? w _ Of)).trans Of;replace Og:=(HB.out.cell (World.block_lt_of_cell? w _ Og)).trans Og;replace Oh:=(HB.out.cell (World.block_lt_of_cell? w _ Oh)).trans Oh;replace Uc:=(HB.out.cell (World.block_lt_of_cell? w _ Uc)).trans Uc;replace Ud:=(HB.out.cell (World.block_lt_of_cell? w _ Ud)).trans Ud;have qf8:=Q1.mk qcq;have qqf:=Q1.mk qcD;clear qcq qcD;have qf9:=Q1.mk qcr;have qqg:=Q1.mk qcE;clear qcr qcE;have qga:=Q1.mk qcs;have qqh:=Q1.mk qcF;clear qcs qcF;replace qks:=eq_true qks;replace qkK:=eq_true qkK;have ea_:=Option.some.inj (Oc.symm.trans Of)
                   injection ea_ with ea_ en_ ec_
                   subst ea_;subst ec_;clear en_;have ea_:=Option.some.inj (Od.symm.trans Og)
                   injection ea_ with ea_ en_ ec_
                   subst ea_;subst ec_;clear en_;have ea_:=Option.some.inj (Oe.symm.trans Oh)
                   injection ea_ with ea_ en_ ec_
                   subst ea_;subst ec_;clear en_;obtain ⟨qp0,qqz,qqE⟩:=Kd.R_slice HO_10.out
                   (first|subst qqE|(injection qqE with f1_ f2_ f3_;have f4_:=f1_.symm;have f5_:=f3_.symm;clear f1_ f2_ f3_;subst f4_;subst f5_))
                   refine OO (n:=25) (S:=fun w'=>w'.cell? ⟨JA,0,none⟩=some (.slice (some Jo) Qa.length Qr)∧w'.cell? ⟨JA,1,none⟩=some (.slice Qv Qe.length Qs)∧w'.cell? ⟨JA,2,none⟩=some (.slice (some qeN) Qc.length Qt)∧w'.cell? (Jo.add ((YJ).toNat*5))=some (.slice qbo ((Qd Qa YJ).f0).length qbr)∧w'.cell? ⟨(Jo.add ((YJ).toNat*5)).block,(Jo.add ((YJ).toNat*5)).off+1,none⟩=some (.slice qbp ((Qd Qa YJ).f1).length qbs)∧w'.cell? ⟨(Jo.add ((YJ).toNat*5)).block,(Jo.add ((YJ).toNat*5)).off+2,none⟩=some (.slice qbq ((Qd Qa YJ).f2).length qbt)∧w'.cell? ⟨(Jo.add ((YJ).toNat*5)).block,(Jo.add ((YJ).toNat*5)).off+3,none⟩=some (.int .i64 ((Qd Qa YJ).f3))∧w'.cell? ⟨(Jo.add ((YJ).toNat*5)).block,(Jo.add ((YJ).toNat*5)).off+4,none⟩=some (.int .i64 ((Qd Qa YJ).f4))∧w'.cell? (qeN.add (GE).toNat)=some (.slice (some qh2) (QE Qc GE).length qjU)∧w'.cell? (qh2.add (YJ).toNat)=some (.slice qeA (Ya (QE Qc GE) YJ).length qeQ)∧w'.cell? (Jo.add ((YJ).toNat*5))=some (.slice qbo ((Qd Qa YJ).f0).length qbr)∧w'.cell? ⟨(Jo.add ((YJ).toNat*5)).block,(Jo.add ((YJ).toNat*5)).off+1,none⟩=some (.slice qbp ((Qd Qa YJ).f1).length qbs)∧w'.cell? ⟨(Jo.add ((YJ).toNat*5)).block,(Jo.add ((YJ).toNat*5)).off+2,none⟩=some (.slice qbq ((Qd Qa YJ).f2).length qbt)∧w'.cell? ⟨(Jo.add ((YJ).toNat*5)).block,(Jo.add ((YJ).toNat*5)).off+3,none⟩=some (.int .i64 ((Qd Qa YJ).f3))∧w'.cell? ⟨(Jo.add ((YJ).toNat*5)).block,(Jo.add ((YJ).toNat*5)).off+4,none⟩=some (.int .i64 ((Qd Qa YJ).f4))) (ds:=[]) #[false,false,false,false,false,false,false,false,false,false,false,false,false,false,false,false,false,false,false,false,false,false,false,false,false] (by kernel_rfl) rfl rfl ⟨(Q6 YH.out 0).trans rfl,(Q6 YH.out 1).trans rfl,(Q6 YH.out 2).trans rfl,((HB.out.cell (World.block_lt_of_cell? w _ W6)).trans W6),((HB.out.cell (World.block_lt_of_cell? w _ W7)).trans W7),((HB.out.cell (World.block_lt_of_cell? w _ W8)).trans W8),((HB.out.cell (World.block_lt_of_cell? w _ W9)).trans W9),((HB.out.cell (World.block_lt_of_cell? w _ Wa)).trans Wa),((HB.out.cell (World.block_lt_of_cell? w _ Wc)).trans Wc),((HB.out.cell (World.block_lt_of_cell? w _ Wd)).trans Wd),((HB.out.cell (World.block_lt_of_cell? w _ Wg)).trans Wg),((HB.out.cell (World.block_lt_of_cell? w _ Wh)).trans Wh),((HB.out.cell (World.block_lt_of_cell? w _ Wi)).trans Wi),((HB.out.cell (World.block_lt_of_cell? w _ Wj)).trans Wj),((HB.out.cell (World.block_lt_of_cell? w _ Wk)).trans Wk)⟩ (fun hHeld => ?_);refine Gq Qk.tab15 Qk.bits15 (fun HT_ HW_ => ?_)
                   generalize wr.drew=w27 at HO_10 YH HB qbS qbT qbU qbV qbW qf8 qf9 qga Oc Od Oe U8 U9 Ua Ub Of Og Oh Uc Ud hHeld ⊢
                   refine Y2 (i:=0) (N:=some 49) (v:=?_) (a':=?_) #[true,false,false,false,false,false,false,false,false,false,false,false,false,false,false,false,false,false,false,false,false,false,false,false,false] rfl rfl (QJ HT_.out (by kernel_rfl)) (fun _ _ _ h=>h) (Or.inl ⟨by rfl,?_⟩) ?_ ?_
                   rotate_left
                   ·
                    intro w'
                    go_simp
                    with_reducible rfl
                   rotate_left
                   ·
                    simp only [Act.put,List.setIfInBounds_toArray,List.set_cons_zero,List.set_cons_succ,QC,QD]
                    rfl
                   refine Y2 (i:=2) (N:=some 51) (v:=?_) (a':=?_) #[true,false,true,false,false,false,false,false,false,false,false,false,false,false,false,false,false,false,false,false,false,false,false,false,false] rfl rfl (QJ HT_.out (by kernel_rfl)) (fun _ _ _ h=>h) (Or.inl ⟨by rfl,?_⟩) ?_ ?_
                   rotate_left
                   ·
                    intro w'
                    go_simp
                    with_reducible rfl
                   rotate_left
                   ·
                    simp only [Act.put,List.setIfInBounds_toArray,List.set_cons_zero,List.set_cons_succ,QC,QD]
                    rfl
                   refine Y2 (i:=5) (N:=some 54) (v:=?_) (a':=?_) #[true,false,true,false,false,true,false,false,false,false,false,false,false,false,false,false,false,false,false,false,false,false,false,false,false] rfl rfl (QJ HT_.out (by kernel_rfl)) (fun _ _ _ h=>h) (Or.inl ⟨by rfl,?_⟩) ?_ ?_
                   rotate_left
                   ·
                    intro w'
                    go_simp
                    with_reducible rfl
                   rotate_left
                   ·
                    simp only [Act.put,List.setIfInBounds_toArray,List.set_cons_zero,List.set_cons_succ,QC,QD]
                    rfl
                   refine Y2 (i:=6) (N:=some 55) (v:=?_) (a':=?_) #[true,false,true,false,false,true,true,false,false,false,false,false,false,false,false,false,false,false,false,false,false,false,false,false,false] rfl rfl (QJ HT_.out (by kernel_rfl)) (fun _ _ _ h=>h) (Or.inl ⟨by rfl,?_⟩) ?_ ?_
                   rotate_left
                   ·
                    intro w'
                    go_simp
                    with_reducible rfl
                   rotate_left
                   ·
                    simp only [Act.put,List.setIfInBounds_toArray,List.set_cons_zero,List.set_cons_succ,QC,QD]
                    rfl
                   refine Y2 (i:=8) (N:=some 57) (v:=?_) (a':=?_) #[true,false,true,false,false,true,true,false,true,false,false,false,false,false,false,false,false,false,false,false,false,false,false,false,false] rfl rfl (QJ HT_.out (by kernel_rfl)) (fun _ _ _ h=>h) (Or.inl ⟨by rfl,?_⟩) ?_ ?_
                   rotate_left
                   ·
                    intro w'
                    go_simp
                    with_reducible rfl
                   rotate_left
                   ·
                    simp only [Act.put,List.setIfInBounds_toArray,List.set_cons_zero,List.set_cons_succ,QC,QD]
                    rfl
                   refine Y2 (i:=11) (N:=some 60) (v:=?_) (a':=?_) #[true,false,true,false,false,true,true,false,true,false,false,true,false,false,false,false,false,false,false,false,false,false,false,false,false] rfl rfl (QJ HT_.out (by kernel_rfl)) (fun _ _ _ h=>h) (Or.inl ⟨by rfl,?_⟩) ?_ ?_
                   rotate_left
                   ·
                    intro w'
                    go_simp
                    with_reducible rfl
                   rotate_left
                   ·
                    simp only [Act.put,List.setIfInBounds_toArray,List.set_cons_zero,List.set_cons_succ,QC,QD]
                    rfl
                   refine Y2 (i:=15) (N:=some 64) (v:=?_) (a':=?_) #[true,false,true,false,false,true,true,false,true,false,false,true,false,false,false,true,false,false,false,false,false,false,false,false,false] rfl rfl (QJ HT_.out (by kernel_rfl)) (fun _ _ _ h=>h) (Or.inl ⟨by rfl,?_⟩) ?_ ?_
                   rotate_left
                   ·
                    intro w'
                    go_simp
                    with_reducible rfl
                   rotate_left
                   ·
                    simp only [Act.put,List.setIfInBounds_toArray,List.set_cons_zero,List.set_cons_succ,QC,QD]
                    rfl
                   refine Y2 (i:=18) (N:=some 67) (v:=?_) (a':=?_) #[true,false,true,false,false,true,true,false,true,false,false,true,false,false,false,true,false,false,true,false,false,false,false,false,false] rfl rfl (QJ HT_.out (by kernel_rfl)) (fun _ _ _ h=>h) (Or.inl ⟨by rfl,?_⟩) ?_ ?_
                   rotate_left
                   ·
                    intro w'
                    go_simp
                    with_reducible rfl
                   rotate_left
                   ·
                    simp only [Act.put,List.setIfInBounds_toArray,List.set_cons_zero,List.set_cons_succ,QC,QD]
                    rfl
                   refine Y2 (i:=20) (N:=some 69) (v:=?_) (a':=?_) #[true,false,true,false,false,true,true,false,true,false,false,true,false,false,false,true,false,false,true,false,true,false,false,false,false] rfl rfl (QJ HT_.out (by kernel_rfl)) (fun _ _ _ h=>h) (Or.inl ⟨by rfl,?_⟩) ?_ ?_
                   rotate_left
                   ·
                    intro w'
                    go_simp
                    with_reducible rfl
                   rotate_left
                   ·
                    simp only [Act.put,List.setIfInBounds_toArray,List.set_cons_zero,List.set_cons_succ,QC,QD]
                    rfl
                   refine J8 (i:=1) (N:=some 50) (v:=?_) (a':=?_) #[true,true,true,false,false,true,true,false,true,false,false,true,false,false,false,true,false,false,true,false,true,false,false,false,false] rfl rfl (YN HT_.out HW_.out (by kernel_rfl)) (fun _ _ _ h=>h) (Or.inl ⟨by rfl,?_⟩) hHeld ?_ ?_
                   rotate_left
                   ·
                    rintro w' ⟨s0,s1,s2,s3,s4,s5,s6,s7,s8,s9,s10,s11,s12,s13,s14⟩
                    go_simp
                    with_reducible rfl
                   rotate_left
                   ·
                    simp only [Act.put,List.setIfInBounds_toArray,List.set_cons_zero,List.set_cons_succ,QC,QD]
                    rfl
                   refine Y2 (i:=3) (N:=some 52) (v:=?_) (a':=?_) #[true,true,true,true,false,true,true,false,true,false,false,true,false,false,false,true,false,false,true,false,true,false,false,false,false] rfl rfl (QJ HT_.out (by kernel_rfl)) (fun _ _ _ h=>h) (Or.inl ⟨by rfl,?_⟩) ?_ ?_
                   rotate_left
                   ·
                    intro w'
                    go_simp
                    with_reducible rfl
                   rotate_left
                   ·
                    simp only [Act.put,List.setIfInBounds_toArray,List.set_cons_zero,List.set_cons_succ,QC,QD]
                    rfl
                   refine J8 (i:=4) (N:=some 53) (v:=?_) (a':=?_) #[true,true,true,true,true,true,true,false,true,false,false,true,false,false,false,true,false,false,true,false,true,false,false,false,false] rfl rfl (YN HT_.out HW_.out (by kernel_rfl)) (fun _ _ _ h=>h) (Or.inl ⟨by rfl,?_⟩) hHeld ?_ ?_
                   rotate_left
                   ·
                    rintro w' ⟨s0,s1,s2,s3,s4,s5,s6,s7,s8,s9,s10,s11,s12,s13,s14⟩
                    go_simp
                    with_reducible rfl
                   rotate_left
                   ·
                    simp only [Act.put,List.setIfInBounds_toArray,List.set_cons_zero,List.set_cons_succ,QC,QD]
                    rfl
                   refine J8 (i:=7) (N:=some 56) (v:=?_) (a':=?_) #[true,true,true,true,true,true,true,true,true,false,false,true,false,false,false,true,false,false,true,false,true,false,false,false,false] rfl rfl (YN HT_.out HW_.out (by kernel_rfl)) (fun _ _ _ h=>h) (Or.inl ⟨by rfl,?_⟩) hHeld ?_ ?_
                   rotate_left
                   ·
                    rintro w' ⟨s0,s1,s2,s3,s4,s5,s6,s7,s8,s9,s10,s11,s12,s13,s14⟩
                    go_simp
                    with_reducible rfl
                   rotate_left
                   ·
                    simp only [Act.put,List.setIfInBounds_toArray,List.set_cons_zero,List.set_cons_succ,QC,QD]
                    rfl
                   refine Y2 (i:=9) (N:=some 58) (v:=?_) (a':=?_) #[true,true,true,true,true,true,true,true,true,true,false,true,false,false,false,true,false,false,true,false,true,false,false,false,false] rfl rfl (QJ HT_.out (by kernel_rfl)) (fun _ _ _ h=>h) (Or.inl ⟨by rfl,?_⟩) ?_ ?_
                   rotate_left
                   ·
                    intro w'
                    go_simp
                    with_reducible rfl
                   rotate_left
                   ·
                    simp only [Act.put,List.setIfInBounds_toArray,List.set_cons_zero,List.set_cons_succ,QC,QD]
                    rfl
                   refine J8 (i:=10) (N:=some 59) (v:=?_) (a':=?_) #[true,true,true,true,true,true,true,true,true,true,true,true,false,false,false,true,false,false,true,false,true,false,false,false,false] rfl rfl (YN HT_.out HW_.out (by kernel_rfl)) (fun _ _ _ h=>h) (Or.inl ⟨by rfl,?_⟩) hHeld ?_ ?_
                   rotate_left
                   ·
                    rintro w' ⟨s0,s1,s2,s3,s4,s5,s6,s7,s8,s9,s10,s11,s12,s13,s14⟩
                    go_simp
                    with_reducible rfl
                   rotate_left
                   ·
                    simp only [Act.put,List.setIfInBounds_toArray,List.set_cons_zero,List.set_cons_succ,QC,QD]
                    rfl
                   refine Y2 (i:=12) (N:=some 61) (v:=?_) (a':=?_) #[true,true,true,true,true,true,true,true,true,true,true,true,true,false,false,true,false,false,true,false,true,false,false,false,false] rfl rfl (QJ HT_.out (by kernel_rfl)) (fun _ _ _ h=>h) (Or.inl ⟨by rfl,?_⟩) ?_ ?_
                   rotate_left
                   ·
                    intro w'
                    go_simp
                    with_reducible rfl
                   rotate_left
                   ·
                    simp only [Act.put,List.setIfInBounds_toArray,List.set_cons_zero,List.set_cons_succ,QC,QD]
                    rfl
                   refine J8 (i:=13) (N:=some 62) (v:=?_) (a':=?_) #[true,true,true,true,true,true,true,true,true,true,true,true,true,true,false,true,false,false,true,false,true,false,false,false,false] rfl rfl (YN HT_.out HW_.out (by kernel_rfl)) (fun _ _ _ h=>h) (Or.inl ⟨by rfl,?_⟩) hHeld ?_ ?_
                   rotate_left
                   ·
                    rintro w' ⟨s0,s1,s2,s3,s4,s5,s6,s7,s8,s9,s10,s11,s12,s13,s14⟩
                    go_simp
                    with_reducible rfl
                   rotate_left
                   ·
                    simp only [Act.put,List.setIfInBounds_toArray,List.set_cons_zero,List.set_cons_succ,QC,QD]
                    rfl
                   refine J8 (i:=19) (N:=some 68) (v:=?_) (a':=?_) #[true,true,true,true,true,true,true,true,true,true,true,true,true,true,false,true,false,false,true,true,true,false,false,false,false] rfl rfl (YN HT_.out HW_.out (by kernel_rfl)) (fun _ _ _ h=>h) (Or.inl ⟨by rfl,?_⟩) hHeld ?_ ?_
                   rotate_left
                   ·
                    rintro w' ⟨s0,s1,s2,s3,s4,s5,s6,s7,s8,s9,s10,s11,s12,s13,s14⟩
                    go_simp
                    with_reducible rfl
                   rotate_left
                   ·
                    simp only [Act.put,List.setIfInBounds_toArray,List.set_cons_zero,List.set_cons_succ,QC,QD]
                    rfl
                   refine Y2 (i:=21) (N:=some 70) (v:=?_) (a':=?_) #[true,true,true,true,true,true,true,true,true,true,true,true,true,true,false,true,false,false,true,true,true,true,false,false,false] rfl rfl (QJ HT_.out (by kernel_rfl)) (fun _ _ _ h=>h) (Or.inl ⟨by rfl,?_⟩) ?_ ?_
                   rotate_left
                   ·
                    intro w'
                    go_simp
                    with_reducible rfl
                   rotate_left
                   ·
                    simp only [Act.put,List.setIfInBounds_toArray,List.set_cons_zero,List.set_cons_succ,QC,QD]
                    rfl
                   refine Y2 (i:=22) (N:=some 71) (v:=?_) (a':=?_) #[true,true,true,true,true,true,true,true,true,true,true,true,true,true,false,true,false,false,true,true,true,true,true,false,false] rfl rfl (QJ HT_.out (by kernel_rfl)) (fun _ _ _ h=>h) (Or.inl ⟨by rfl,?_⟩) ?_ ?_
                   rotate_left
                   ·
                    intro w'
                    go_simp
                    with_reducible rfl
                   rotate_left
                   ·
                    simp only [Act.put,List.setIfInBounds_toArray,List.set_cons_zero,List.set_cons_succ,QC,QD]
                    rfl
                   refine J8 (i:=23) (N:=some 72) (v:=?_) (a':=?_) #[true,true,true,true,true,true,true,true,true,true,true,true,true,true,false,true,false,false,true,true,true,true,true,true,false] rfl rfl (YN HT_.out HW_.out (by kernel_rfl)) (fun _ _ _ h=>h) (Or.inl ⟨by rfl,?_⟩) hHeld ?_ ?_
                   rotate_left
                   ·
                    rintro w' ⟨s0,s1,s2,s3,s4,s5,s6,s7,s8,s9,s10,s11,s12,s13,s14⟩
                    go_simp
                    with_reducible rfl
                   rotate_left
                   ·
                    simp only [Act.put,List.setIfInBounds_toArray,List.set_cons_zero,List.set_cons_succ,QC,QD]
                    rfl
                   refine one_ (i:=14) (N:=some 63) #[true,true,true,true,true,true,true,true,true,true,true,true,true,true,true,true,false,false,true,true,true,true,true,true,false] rfl rfl (GD HT_.out (by kernel_rfl)) (by decide) (fun K hK => ?_);refine Wv Try.func81 (by kernel_rfl) rfl #[.agg #[.slice qbo ((Qd Qa YJ).f0).length qbr,.slice qbp ((Qd Qa YJ).f1).length qbs,.slice qbq ((Qd Qa YJ).f2).length qbt,.int .i64 ((Qd Qa YJ).f3),.int .i64 ((Qd Qa YJ).f4)],.slice qp0 WF.length qqz,.slice qeA (Ya (QE Qc GE) YJ).length qeQ] (by rfl) rfl rfl (by (try simp only [List.map_toArray,List.map_cons,List.map_nil]);first|done|rfl|(simp only [List.length_drop,List.length_take];rfl)) ?_
                   with_reducible refine (QK.calls k4 (fun k_=>k_<w.heap.size) _ _ ((Qd Qa YJ).f0) _ _ ((Qd Qa YJ).f1) _ _ ((Qd Qa YJ).f2) ((Qd Qa YJ).f3) ((Qd Qa YJ).f4) _ _ WF _ _ (Ya (QE Qc GE) YJ) qag _ ?side1 ?side2 ?side3 ?side4 ?side5 ?side6 ?side7 ?side8 ?side9 A22.out).mono ?_
                   (case side1=>exact Kd.V_mk qf1.out (Kd.F_below (Kd.C_F (Kd.heap_int .i64) qbS.out) (by repeat (first|(with_reducible first|exact HB.out|apply Q2|apply Q0|apply Q3|refine Q7 ?_ OS.out)|exact HB.out))))
                   (case side2=>repeat (first|exact (Kd.C_below qbT.out HB.out)|(with_reducible refine Kd.C_alloc ?_ _)|(with_reducible refine Kd.C_drewN ?_ _)|(with_reducible refine Kd.C_drew ?_)))
                   (case side3=>exact qf2.out)
                   (case side4=>repeat (first|exact (Kd.C_below qbU.out HB.out)|(with_reducible refine Kd.C_alloc ?_ _)|(with_reducible refine Kd.C_drewN ?_ _)|(with_reducible refine Kd.C_drew ?_)))
                   (case side5=>exact qf3.out)
                   (case side6=>repeat (first|exact (Kd.R_reads' HO_10.out).2.2|(with_reducible refine Kd.C_alloc ?_ _)|(with_reducible refine Kd.C_drewN ?_ _)|(with_reducible refine Kd.C_drew ?_)))
                   (case side7=>exact (Kd.R_reads' HO_10.out).2.1)
                   (case side8=>repeat (first|exact (Kd.C_below qbW.out HB.out)|(with_reducible refine Kd.C_alloc ?_ _)|(with_reducible refine Kd.C_drewN ?_ _)|(with_reducible refine Kd.C_drew ?_)))
                   (case side9=>exact qf4.out)
                   rintro e w29 ⟨qGY,rfl,ho0,hb⟩;refine ⟨_,rfl,?_⟩;have n0_:=Q1.mk (Kd.R_elder' (by (with_reducible repeat (first|apply Kd.R_alloc|apply Kd.R_drewN|apply Kd.R_drew));exact HO_10.out) (Kd.R_base ho0) hb);have n1_:=Q1.mk (Kd.R_lower (Kd.R_new' (Kd.R_mono (ok':=fun k_=>True) ho0 (fun _ hk_=>trivial)) (Kd.R_lt (by (with_reducible repeat (first|apply Kd.R_alloc|apply Kd.R_drewN|apply Kd.R_drew));exact HO_10.out))) (Qf (by repeat (first|(with_reducible first|exact HB.out|apply Q2|apply Q0|apply Q3|refine Q7 ?_ OS.out)|exact HB.out))));have n2_:=Q1.mk (Qg (g:=JA) (by (with_reducible repeat (first|refine Q5 ?_ _|refine Q9 ?_|refine Q4 ?_ _));exact YH.out) hb);have n3_:=Q1.mk (Qi (by repeat (first|(with_reducible first|exact HB.out|apply Q2|apply Q0|apply Q3|refine Q7 ?_ OS.out)|exact HB.out)) hb);clear HO_10 YH HB;have HO_10:=n0_;have qh0:=n1_;have YH:=n2_;have HB:=n3_;clear n0_ n1_ n2_ n3_
                   (try clear hb)
                   (try clear hb2)
                   (try clear hk)
                   (try clear hi)
                   (try clear ho0)
                   obtain ⟨qJm,qJu,qxs⟩:=Kd.R_slice qh0.out
                   (first|subst qxs|(injection qxs with f1_ f2_ f3_;have f4_:=f1_.symm;have f5_:=f3_.symm;clear f1_ f2_ f3_;subst f4_;subst f5_))
                   have qkr:0≤(Yx:Int):=of_decide_eq_true (by first|(with_reducible assumption)|assumption);have qkJ:Yx<(qag.length:Int):=of_decide_eq_true (by first|(with_reducible assumption)|assumption);obtain ⟨qxl,quT,qsa⟩:=Kd.at_int (Kd.R_reads' qh0.out).2.2 Yx qkr qkJ;cases quT;replace qkr:=eq_true qkr;replace qkJ:=eq_true qkJ;refine hK.out _ _ ⟨(Q6 YH.out 0).trans rfl,(Q6 YH.out 1).trans rfl,(Q6 YH.out 2).trans rfl,((HB.out.cell (World.block_lt_of_cell? w _ W6)).trans W6),((HB.out.cell (World.block_lt_of_cell? w _ W7)).trans W7),((HB.out.cell (World.block_lt_of_cell? w _ W8)).trans W8),((HB.out.cell (World.block_lt_of_cell? w _ W9)).trans W9),((HB.out.cell (World.block_lt_of_cell? w _ Wa)).trans Wa),((HB.out.cell (World.block_lt_of_cell? w _ Wc)).trans Wc),((HB.out.cell (World.block_lt_of_cell? w _ Wd)).trans Wd),((HB.out.cell (World.block_lt_of_cell? w _ Wg)).trans Wg),((HB.out.cell (World.block_lt_of_cell? w _ Wh)).trans Wh),((HB.out.cell (World.block_lt_of_cell? w _ Wi)).trans Wi),((HB.out.cell (World.block_lt_of_cell? w _ Wj)).trans Wj),((HB.out.cell (World.block_lt_of_cell? w _ Wk)).trans Wk)⟩ (fun hHeld => ?_);clear hK K;refine GA (a':=?_) ?_ ?_
                   rotate_left
                   ·
                    show Act.put _ (some 63) _=_
                    simp only [Act.put,List.setIfInBounds_toArray,List.set_cons_zero,List.set_cons_succ,QC,QD]
                    rfl
                   refine Y2 (i:=16) (N:=some 65) (v:=?_) (a':=?_) #[true,true,true,true,true,true,true,true,true,true,true,true,true,true,true,true,true,false,true,true,true,true,true,true,false] rfl rfl (QJ HT_.out (by kernel_rfl)) (fun _ _ _ h=>h) (Or.inl ⟨by rfl,?_⟩) ?_ ?_
                   rotate_left
                   ·
                    intro w'
                    go_simp
                    with_reducible rfl
                   rotate_left
                   ·
                    simp only [Act.put,List.setIfInBounds_toArray,List.set_cons_zero,List.set_cons_succ,QC,QD]
                    rfl
                   refine one_ (i:=17) (N:=some 66) #[true,true,true,true,true,true,true,true,true,true,true,true,true,true,true,true,true,true,true,true,true,true,true,true,false] rfl rfl (GD HT_.out (by kernel_rfl)) (by decide) (fun K hK => ?_);refine qbw (v:=.int .i64 (rd qag Yx)) rfl (by go_simp;rfl) ?_;refine hK.out _ _ hHeld (fun hHeld => ?_);clear hK K;refine GA (a':=?_) ?_ ?_
                   rotate_left
                   ·
                    show Act.put _ (some 66) _=_
                    simp only [Act.put,List.setIfInBounds_toArray,List.set_cons_zero,List.set_cons_succ,QC,QD]
                    rfl
                   refine Y2 (i:=24) (N:=some 73) (v:=?_) (a':=?_) #[true,true,true,true,true,true,true,true,true,true,true,true,true,true,true,true,true,true,true,true,true,true,true,true,true] rfl rfl (QJ HT_.out (by kernel_rfl)) (fun _ _ _ h=>h) (Or.inl ⟨by rfl,?_⟩) ?_ ?_
                   rotate_left
                   ·
                    intro w'
                    go_simp
                    with_reducible rfl
                   rotate_left
                   ·
                    simp only [Act.put,List.setIfInBounds_toArray,List.set_cons_zero,List.set_cons_succ,QC,QD]
                    rfl
                   refine Wu (KC HT_.out (by kernel_rfl)) ?_
                   try go_wp2
                   refine bodyPost_ret (G8 (rs:=[.tmp 4,.tmp 5,.tmp 6,.tmp 7]) rfl (by simp) (.tmp (.tmp (.tmp (.tmp .nil))))) rfl ?_
                   exact ⟨by first|rfl|(simp [Qw,Qx]<;>rfl)|(simp [*,Qw,Qx]<;>rfl),by repeat (first|(with_reducible first|exact HB.out|apply Q2|apply Q0|apply Q3|refine Q7 ?_ OS.out)|exact HB.out)⟩
                  rw [if_neg c25] at H;have c25b0:decide ((rd qag Yx)<((Qd Qa YJ).f3))=false:=decide_eq_false c25;clear c25;have H':=Q1.mk H;clear H;have qzW:wr.cell? ⟨JA,0,none⟩=some (.slice Qy Qa.length Qr):=(Q6 YH.out 0).trans rfl;have qzX:wr.cell? ⟨JA,1,none⟩=some (.slice Qv Qe.length Qs):=(Q6 YH.out 1).trans rfl;have qzY:wr.cell? ⟨JA,2,none⟩=some (.slice Qz Qc.length Qt):=(Q6 YH.out 2).trans rfl;have qBL:=Q8 YH.out 0;have qBM:=Q8 YH.out 1;have qBN:=Q8 YH.out 2
                  try go_wp2
                  have n0_:=Q1.mk (Kd.R_drew HO_10.out);have n1_:=Q1.mk (Q9 YH.out);have n2_:=Q1.mk (Q3 HB.out);clear HO_10 YH HB;have HO_10:=n0_;have YH:=n1_;have HB:=n2_;clear n0_ n1_ n2_;have qko:0≤(YJ:Int):=of_decide_eq_true (by first|(with_reducible assumption)|assumption);have qkG:YJ<(Qa.length:Int):=of_decide_eq_true (by first|(with_reducible assumption)|assumption);obtain ⟨Jo,qbo,qbr,qbp,qbs,qbq,qbt,quQ,Oc,Od,Oe,U8,U9,qcy,qcl,qcz,qcm,qcA,qcn⟩:=qat Z1.out YJ qko qkG;have Wa:=U9;have W9:=U8;have W8:=Oe;have W7:=Od;have W6:=Oc;cases quQ;replace Oc:=(HB.out.cell (World.block_lt_of_cell? w _ Oc)).trans Oc;replace Od:=(HB.out.cell (World.block_lt_of_cell? w _ Od)).trans Od;replace Oe:=(HB.out.cell (World.block_lt_of_cell? w _ Oe)).trans Oe;replace U8:=(HB.out.cell (World.block_lt_of_cell? w _ U8)).trans U8;replace U9:=(HB.out.cell (World.block_lt_of_cell? w _ U9)).trans U9;have qbS:=Q1.mk qcl;have qf1:=Q1.mk qcy;clear qcl qcy;have qbT:=Q1.mk qcm;have qf2:=Q1.mk qcz;clear qcm qcz;have qbU:=Q1.mk qcn;have qf3:=Q1.mk qcA;clear qcn qcA;replace qko:=eq_true qko;replace qkG:=eq_true qkG;have qkp:0≤(GE:Int):=of_decide_eq_true (by first|(with_reducible assumption)|assumption);have qkH:GE<(Qc.length:Int):=of_decide_eq_true (by first|(with_reducible assumption)|assumption);obtain ⟨qeN,qt8,qjU,quR,Ua,qcB,qco⟩:=qbh YV.out GE qkp qkH;have Wc:=Ua;cases quR;replace Ua:=(HB.out.cell (World.block_lt_of_cell? w _ Ua)).trans Ua;have qbV:=Q1.mk qco;have qqe:=Q1.mk qcB;clear qco qcB;replace qkp:=eq_true qkp;replace qkH:=eq_true qkH;have qkq:0≤(YJ:Int):=of_decide_eq_true (by first|(with_reducible assumption)|assumption);have qkI:YJ<((QE Qc GE).length:Int):=of_decide_eq_true (by first|(with_reducible assumption)|assumption);obtain ⟨qh2,qeA,qeQ,quS,Ub,qcC,qcp⟩:=qdA qbV.out YJ qkq qkI;have Wd:=Ub;cases quS;replace Ub:=(HB.out.cell (World.block_lt_of_cell? w _ Ub)).trans Ub;have qbW:=Q1.mk qcp;have qf4:=Q1.mk qcC;clear qcp qcC;replace qkq:=eq_true qkq;replace qkI:=eq_true qkI;have qks:0≤(YJ:Int):=of_decide_eq_true (by first|(with_reducible assumption)|assumption);have qkK:YJ<(Qa.length:Int):=of_decide_eq_true (by first|(with_reducible assumption)|assumption);obtain ⟨qoD,qt9,quB,qua,quC,qub,quD,quU,Of,Og,Oh,Uc,Ud,qcD,qcq,qcE,qcr,qcF,qcs⟩:=qat Z1.out YJ qks qkK;have Wk:=Ud;have Wj:=Uc;have Wi:=Oh;have Wh:=Og;have Wg:=Of;obtain rfl:Jo=qoD:=(by injection quU);replace Of:=(HB.out.cell (World.block_lt_of_cell? w _ Of)).trans Of;replace Og:=(HB.out.cell (World.block_lt_of_cell? w _ Og)).trans Og;replace Oh:=(HB.out.cell (World.block_lt_of_cell? w _ Oh)).trans Oh;replace Uc:=(HB.out.cell (World.block_lt_of_cell? w _ Uc)).trans Uc;replace Ud:=(HB.out.cell (World.block_lt_of_cell? w _ Ud)).trans Ud;have qf8:=Q1.mk qcq;have qqf:=Q1.mk qcD;clear qcq qcD;have qf9:=Q1.mk qcr;have qqg:=Q1.mk qcE;clear qcr qcE;have qga:=Q1.mk qcs;have qqh:=Q1.mk qcF;clear qcs qcF;replace qks:=eq_true qks;replace qkK:=eq_true qkK;have ea_:=Option.some.inj (Oc.symm.trans Of)
                  injection ea_ with ea_ en_ ec_
                  subst ea_;subst ec_;clear en_;have ea_:=Option.some.inj (Od.symm.trans Og)
                  injection ea_ with ea_ en_ ec_
                  subst ea_;subst ec_;clear en_;have ea_:=Option.some.inj (Oe.symm.trans Oh)
                  injection ea_ with ea_ en_ ec_
                  subst ea_;subst ec_;clear en_;obtain ⟨qp1,qqA,qqF⟩:=Kd.R_slice HO_10.out
                  (first|subst qqF|(injection qqF with f1_ f2_ f3_;have f4_:=f1_.symm;have f5_:=f3_.symm;clear f1_ f2_ f3_;subst f4_;subst f5_))
                  refine OO (n:=25) (S:=fun w'=>w'.cell? ⟨JA,0,none⟩=some (.slice (some Jo) Qa.length Qr)∧w'.cell? ⟨JA,1,none⟩=some (.slice Qv Qe.length Qs)∧w'.cell? ⟨JA,2,none⟩=some (.slice (some qeN) Qc.length Qt)∧w'.cell? (Jo.add ((YJ).toNat*5))=some (.slice qbo ((Qd Qa YJ).f0).length qbr)∧w'.cell? ⟨(Jo.add ((YJ).toNat*5)).block,(Jo.add ((YJ).toNat*5)).off+1,none⟩=some (.slice qbp ((Qd Qa YJ).f1).length qbs)∧w'.cell? ⟨(Jo.add ((YJ).toNat*5)).block,(Jo.add ((YJ).toNat*5)).off+2,none⟩=some (.slice qbq ((Qd Qa YJ).f2).length qbt)∧w'.cell? ⟨(Jo.add ((YJ).toNat*5)).block,(Jo.add ((YJ).toNat*5)).off+3,none⟩=some (.int .i64 ((Qd Qa YJ).f3))∧w'.cell? ⟨(Jo.add ((YJ).toNat*5)).block,(Jo.add ((YJ).toNat*5)).off+4,none⟩=some (.int .i64 ((Qd Qa YJ).f4))∧w'.cell? (qeN.add (GE).toNat)=some (.slice (some qh2) (QE Qc GE).length qjU)∧w'.cell? (qh2.add (YJ).toNat)=some (.slice qeA (Ya (QE Qc GE) YJ).length qeQ)∧w'.cell? (Jo.add ((YJ).toNat*5))=some (.slice qbo ((Qd Qa YJ).f0).length qbr)∧w'.cell? ⟨(Jo.add ((YJ).toNat*5)).block,(Jo.add ((YJ).toNat*5)).off+1,none⟩=some (.slice qbp ((Qd Qa YJ).f1).length qbs)∧w'.cell? ⟨(Jo.add ((YJ).toNat*5)).block,(Jo.add ((YJ).toNat*5)).off+2,none⟩=some (.slice qbq ((Qd Qa YJ).f2).length qbt)∧w'.cell? ⟨(Jo.add ((YJ).toNat*5)).block,(Jo.add ((YJ).toNat*5)).off+3,none⟩=some (.int .i64 ((Qd Qa YJ).f3))∧w'.cell? ⟨(Jo.add ((YJ).toNat*5)).block,(Jo.add ((YJ).toNat*5)).off+4,none⟩=some (.int .i64 ((Qd Qa YJ).f4))) (ds:=[]) #[false,false,false,false,false,false,false,false,false,false,false,false,false,false,false,false,false,false,false,false,false,false,false,false,false] (by kernel_rfl) rfl rfl ⟨(Q6 YH.out 0).trans rfl,(Q6 YH.out 1).trans rfl,(Q6 YH.out 2).trans rfl,((HB.out.cell (World.block_lt_of_cell? w _ W6)).trans W6),((HB.out.cell (World.block_lt_of_cell? w _ W7)).trans W7),((HB.out.cell (World.block_lt_of_cell? w _ W8)).trans W8),((HB.out.cell (World.block_lt_of_cell? w _ W9)).trans W9),((HB.out.cell (World.block_lt_of_cell? w _ Wa)).trans Wa),((HB.out.cell (World.block_lt_of_cell? w _ Wc)).trans Wc),((HB.out.cell (World.block_lt_of_cell? w _ Wd)).trans Wd),((HB.out.cell (World.block_lt_of_cell? w _ Wg)).trans Wg),((HB.out.cell (World.block_lt_of_cell? w _ Wh)).trans Wh),((HB.out.cell (World.block_lt_of_cell? w _ Wi)).trans Wi),((HB.out.cell (World.block_lt_of_cell? w _ Wj)).trans Wj),((HB.out.cell (World.block_lt_of_cell? w _ Wk)).trans Wk)⟩ (fun hHeld => ?_);refine Gq Qk.tab15 Qk.bits15 (fun HT_ HW_ => ?_)
                  generalize wr.drew=w32 at HO_10 YH HB qbS qbT qbU qbV qbW qf8 qf9 qga Oc Od Oe U8 U9 Ua Ub Of Og Oh Uc Ud hHeld ⊢
                  refine Y2 (i:=0) (N:=some 49) (v:=?_) (a':=?_) #[true,false,false,false,false,false,false,false,false,false,false,false,false,false,false,false,false,false,false,false,false,false,false,false,false] rfl rfl (QJ HT_.out (by kernel_rfl)) (fun _ _ _ h=>h) (Or.inl ⟨by rfl,?_⟩) ?_ ?_
                  rotate_left
                  ·
                   intro w'
                   go_simp
                   with_reducible rfl
                  rotate_left
                  ·
                   simp only [Act.put,List.setIfInBounds_toArray,List.set_cons_zero,List.set_cons_succ,QC,QD]
                   rfl
                  refine Y2 (i:=2) (N:=some 51) (v:=?_) (a':=?_) #[true,false,true,false,false,false,false,false,false,false,false,false,false,false,false,false,false,false,false,false,false,false,false,false,false] rfl rfl (QJ HT_.out (by kernel_rfl)) (fun _ _ _ h=>h) (Or.inl ⟨by rfl,?_⟩) ?_ ?_
                  rotate_left
                  ·
                   intro w'
                   go_simp
                   with_reducible rfl
                  rotate_left
                  ·
                   simp only [Act.put,List.setIfInBounds_toArray,List.set_cons_zero,List.set_cons_succ,QC,QD]
                   rfl
                  refine Y2 (i:=5) (N:=some 54) (v:=?_) (a':=?_) #[true,false,true,false,false,true,false,false,false,false,false,false,false,false,false,false,false,false,false,false,false,false,false,false,false] rfl rfl (QJ HT_.out (by kernel_rfl)) (fun _ _ _ h=>h) (Or.inl ⟨by rfl,?_⟩) ?_ ?_
                  rotate_left
                  ·
                   intro w'
                   go_simp
                   with_reducible rfl
                  rotate_left
                  ·
                   simp only [Act.put,List.setIfInBounds_toArray,List.set_cons_zero,List.set_cons_succ,QC,QD]
                   rfl
                  refine Y2 (i:=6) (N:=some 55) (v:=?_) (a':=?_) #[true,false,true,false,false,true,true,false,false,false,false,false,false,false,false,false,false,false,false,false,false,false,false,false,false] rfl rfl (QJ HT_.out (by kernel_rfl)) (fun _ _ _ h=>h) (Or.inl ⟨by rfl,?_⟩) ?_ ?_
                  rotate_left
                  ·
                   intro w'
                   go_simp
                   with_reducible rfl
                  rotate_left
                  ·
                   simp only [Act.put,List.setIfInBounds_toArray,List.set_cons_zero,List.set_cons_succ,QC,QD]
                   rfl
                  refine Y2 (i:=8) (N:=some 57) (v:=?_) (a':=?_) #[true,false,true,false,false,true,true,false,true,false,false,false,false,false,false,false,false,false,false,false,false,false,false,false,false] rfl rfl (QJ HT_.out (by kernel_rfl)) (fun _ _ _ h=>h) (Or.inl ⟨by rfl,?_⟩) ?_ ?_
                  rotate_left
                  ·
                   intro w'
                   go_simp
                   with_reducible rfl
                  rotate_left
                  ·
                   simp only [Act.put,List.setIfInBounds_toArray,List.set_cons_zero,List.set_cons_succ,QC,QD]
                   rfl
                  refine Y2 (i:=11) (N:=some 60) (v:=?_) (a':=?_) #[true,false,true,false,false,true,true,false,true,false,false,true,false,false,false,false,false,false,false,false,false,false,false,false,false] rfl rfl (QJ HT_.out (by kernel_rfl)) (fun _ _ _ h=>h) (Or.inl ⟨by rfl,?_⟩) ?_ ?_
                  rotate_left
                  ·
                   intro w'
                   go_simp
                   with_reducible rfl
                  rotate_left
                  ·
                   simp only [Act.put,List.setIfInBounds_toArray,List.set_cons_zero,List.set_cons_succ,QC,QD]
                   rfl
                  refine Y2 (i:=15) (N:=some 64) (v:=?_) (a':=?_) #[true,false,true,false,false,true,true,false,true,false,false,true,false,false,false,true,false,false,false,false,false,false,false,false,false] rfl rfl (QJ HT_.out (by kernel_rfl)) (fun _ _ _ h=>h) (Or.inl ⟨by rfl,?_⟩) ?_ ?_
                  rotate_left
                  ·
                   intro w'
                   go_simp
                   with_reducible rfl
                  rotate_left
                  ·
                   simp only [Act.put,List.setIfInBounds_toArray,List.set_cons_zero,List.set_cons_succ,QC,QD]
                   rfl
                  refine Y2 (i:=18) (N:=some 67) (v:=?_) (a':=?_) #[true,false,true,false,false,true,true,false,true,false,false,true,false,false,false,true,false,false,true,false,false,false,false,false,false] rfl rfl (QJ HT_.out (by kernel_rfl)) (fun _ _ _ h=>h) (Or.inl ⟨by rfl,?_⟩) ?_ ?_
                  rotate_left
                  ·
                   intro w'
                   go_simp
                   with_reducible rfl
                  rotate_left
                  ·
                   simp only [Act.put,List.setIfInBounds_toArray,List.set_cons_zero,List.set_cons_succ,QC,QD]
                   rfl
                  refine Y2 (i:=20) (N:=some 69) (v:=?_) (a':=?_) #[true,false,true,false,false,true,true,false,true,false,false,true,false,false,false,true,false,false,true,false,true,false,false,false,false] rfl rfl (QJ HT_.out (by kernel_rfl)) (fun _ _ _ h=>h) (Or.inl ⟨by rfl,?_⟩) ?_ ?_
                  rotate_left
                  ·
                   intro w'
                   go_simp
                   with_reducible rfl
                  rotate_left
                  ·
                   simp only [Act.put,List.setIfInBounds_toArray,List.set_cons_zero,List.set_cons_succ,QC,QD]
                   rfl
                  refine J8 (i:=1) (N:=some 50) (v:=?_) (a':=?_) #[true,true,true,false,false,true,true,false,true,false,false,true,false,false,false,true,false,false,true,false,true,false,false,false,false] rfl rfl (YN HT_.out HW_.out (by kernel_rfl)) (fun _ _ _ h=>h) (Or.inl ⟨by rfl,?_⟩) hHeld ?_ ?_
                  rotate_left
                  ·
                   rintro w' ⟨s0,s1,s2,s3,s4,s5,s6,s7,s8,s9,s10,s11,s12,s13,s14⟩
                   go_simp
                   with_reducible rfl
                  rotate_left
                  ·
                   simp only [Act.put,List.setIfInBounds_toArray,List.set_cons_zero,List.set_cons_succ,QC,QD]
                   rfl
                  refine Y2 (i:=3) (N:=some 52) (v:=?_) (a':=?_) #[true,true,true,true,false,true,true,false,true,false,false,true,false,false,false,true,false,false,true,false,true,false,false,false,false] rfl rfl (QJ HT_.out (by kernel_rfl)) (fun _ _ _ h=>h) (Or.inl ⟨by rfl,?_⟩) ?_ ?_
                  rotate_left
                  ·
                   intro w'
                   go_simp
                   with_reducible rfl
                  rotate_left
                  ·
                   simp only [Act.put,List.setIfInBounds_toArray,List.set_cons_zero,List.set_cons_succ,QC,QD]
                   rfl
                  refine J8 (i:=4) (N:=some 53) (v:=?_) (a':=?_) #[true,true,true,true,true,true,true,false,true,false,false,true,false,false,false,true,false,false,true,false,true,false,false,false,false] rfl rfl (YN HT_.out HW_.out (by kernel_rfl)) (fun _ _ _ h=>h) (Or.inl ⟨by rfl,?_⟩) hHeld ?_ ?_
                  rotate_left
                  ·
                   rintro w' ⟨s0,s1,s2,s3,s4,s5,s6,s7,s8,s9,s10,s11,s12,s13,s14⟩
                   go_simp
                   with_reducible rfl
                  rotate_left
                  ·
                   simp only [Act.put,List.setIfInBounds_toArray,List.set_cons_zero,List.set_cons_succ,QC,QD]
                   rfl
                  refine J8 (i:=7) (N:=some 56) (v:=?_) (a':=?_) #[true,true,true,true,true,true,true,true,true,false,false,true,false,false,false,true,false,false,true,false,true,false,false,false,false] rfl rfl (YN HT_.out HW_.out (by kernel_rfl)) (fun _ _ _ h=>h) (Or.inl ⟨by rfl,?_⟩) hHeld ?_ ?_
                  rotate_left
                  ·
                   rintro w' ⟨s0,s1,s2,s3,s4,s5,s6,s7,s8,s9,s10,s11,s12,s13,s14⟩
                   go_simp
                   with_reducible rfl
                  rotate_left
                  ·
                   simp only [Act.put,List.setIfInBounds_toArray,List.set_cons_zero,List.set_cons_succ,QC,QD]
                   rfl
                  refine Y2 (i:=9) (N:=some 58) (v:=?_) (a':=?_) #[true,true,true,true,true,true,true,true,true,true,false,true,false,false,false,true,false,false,true,false,true,false,false,false,false] rfl rfl (QJ HT_.out (by kernel_rfl)) (fun _ _ _ h=>h) (Or.inl ⟨by rfl,?_⟩) ?_ ?_
                  rotate_left
                  ·
                   intro w'
                   go_simp
                   with_reducible rfl
                  rotate_left
                  ·
                   simp only [Act.put,List.setIfInBounds_toArray,List.set_cons_zero,List.set_cons_succ,QC,QD]
                   rfl
                  refine J8 (i:=10) (N:=some 59) (v:=?_) (a':=?_) #[true,true,true,true,true,true,true,true,true,true,true,true,false,false,false,true,false,false,true,false,true,false,false,false,false] rfl rfl (YN HT_.out HW_.out (by kernel_rfl)) (fun _ _ _ h=>h) (Or.inl ⟨by rfl,?_⟩) hHeld ?_ ?_
                  rotate_left
                  ·
                   rintro w' ⟨s0,s1,s2,s3,s4,s5,s6,s7,s8,s9,s10,s11,s12,s13,s14⟩
                   go_simp
                   with_reducible rfl
                  rotate_left
                  ·
                   simp only [Act.put,List.setIfInBounds_toArray,List.set_cons_zero,List.set_cons_succ,QC,QD]
                   rfl
                  refine Y2 (i:=12) (N:=some 61) (v:=?_) (a':=?_) #[true,true,true,true,true,true,true,true,true,true,true,true,true,false,false,true,false,false,true,false,true,false,false,false,false] rfl rfl (QJ HT_.out (by kernel_rfl)) (fun _ _ _ h=>h) (Or.inl ⟨by rfl,?_⟩) ?_ ?_
                  rotate_left
                  ·
                   intro w'
                   go_simp
                   with_reducible rfl
                  rotate_left
                  ·
                   simp only [Act.put,List.setIfInBounds_toArray,List.set_cons_zero,List.set_cons_succ,QC,QD]
                   rfl
                  refine J8 (i:=13) (N:=some 62) (v:=?_) (a':=?_) #[true,true,true,true,true,true,true,true,true,true,true,true,true,true,false,true,false,false,true,false,true,false,false,false,false] rfl rfl (YN HT_.out HW_.out (by kernel_rfl)) (fun _ _ _ h=>h) (Or.inl ⟨by rfl,?_⟩) hHeld ?_ ?_
                  rotate_left
                  ·
                   rintro w' ⟨s0,s1,s2,s3,s4,s5,s6,s7,s8,s9,s10,s11,s12,s13,s14⟩
                   go_simp
                   with_reducible rfl
                  rotate_left
                  ·
                   simp only [Act.put,List.setIfInBounds_toArray,List.set_cons_zero,List.set_cons_succ,QC,QD]
                   rfl
                  refine J8 (i:=19) (N:=some 68) (v:=?_) (a':=?_) #[true,true,true,true,true,true,true,true,true,true,true,true,true,true,false,true,false,false,true,true,true,false,false,false,false] rfl rfl (YN HT_.out HW_.out (by kernel_rfl)) (fun _ _ _ h=>h) (Or.inl ⟨by rfl,?_⟩) hHeld ?_ ?_
                  rotate_left
                  ·
                   rintro w' ⟨s0,s1,s2,s3,s4,s5,s6,s7,s8,s9,s10,s11,s12,s13,s14⟩
                   go_simp
                   with_reducible rfl
                  rotate_left
                  ·
                   simp only [Act.put,List.setIfInBounds_toArray,List.set_cons_zero,List.set_cons_succ,QC,QD]
                   rfl
                  refine Y2 (i:=21) (N:=some 70) (v:=?_) (a':=?_) #[true,true,true,true,true,true,true,true,true,true,true,true,true,true,false,true,false,false,true,true,true,true,false,false,false] rfl rfl (QJ HT_.out (by kernel_rfl)) (fun _ _ _ h=>h) (Or.inl ⟨by rfl,?_⟩) ?_ ?_
                  rotate_left
                  ·
                   intro w'
                   go_simp
                   with_reducible rfl
                  rotate_left
                  ·
                   simp only [Act.put,List.setIfInBounds_toArray,List.set_cons_zero,List.set_cons_succ,QC,QD]
                   rfl
                  refine Y2 (i:=22) (N:=some 71) (v:=?_) (a':=?_) #[true,true,true,true,true,true,true,true,true,true,true,true,true,true,false,true,false,false,true,true,true,true,true,false,false] rfl rfl (QJ HT_.out (by kernel_rfl)) (fun _ _ _ h=>h) (Or.inl ⟨by rfl,?_⟩) ?_ ?_
                  rotate_left
                  ·
                   intro w'
                   go_simp
                   with_reducible rfl
                  rotate_left
                  ·
                   simp only [Act.put,List.setIfInBounds_toArray,List.set_cons_zero,List.set_cons_succ,QC,QD]
                   rfl
                  refine J8 (i:=23) (N:=some 72) (v:=?_) (a':=?_) #[true,true,true,true,true,true,true,true,true,true,true,true,true,true,false,true,false,false,true,true,true,true,true,true,false] rfl rfl (YN HT_.out HW_.out (by kernel_rfl)) (fun _ _ _ h=>h) (Or.inl ⟨by rfl,?_⟩) hHeld ?_ ?_
                  rotate_left
                  ·
                   rintro w' ⟨s0,s1,s2,s3,s4,s5,s6,s7,s8,s9,s10,s11,s12,s13,s14⟩
                   go_simp
                   with_reducible rfl
                  rotate_left
                  ·
                   simp only [Act.put,List.setIfInBounds_toArray,List.set_cons_zero,List.set_cons_succ,QC,QD]
                   rfl
                  refine one_ (i:=14) (N:=some 63) #[true,true,true,true,true,true,true,true,true,true,true,true,true,true,true,true,false,false,true,true,true,true,true,true,false] rfl rfl (GD HT_.out (by kernel_rfl)) (by decide) (fun K hK => ?_);refine Wv Try.func81 (by kernel_rfl) rfl #[.agg #[.slice qbo ((Qd Qa YJ).f0).length qbr,.slice qbp ((Qd Qa YJ).f1).length qbs,.slice qbq ((Qd Qa YJ).f2).length qbt,.int .i64 ((Qd Qa YJ).f3),.int .i64 ((Qd Qa YJ).f4)],.slice qp1 WF.length qqA,.slice qeA (Ya (QE Qc GE) YJ).length qeQ] (by rfl) rfl rfl (by (try simp only [List.map_toArray,List.map_cons,List.map_nil]);first|done|rfl|(simp only [List.length_drop,List.length_take];rfl)) ?_
                  with_reducible refine (QK.calls k4 (fun k_=>k_<w.heap.size) _ _ ((Qd Qa YJ).f0) _ _ ((Qd Qa YJ).f1) _ _ ((Qd Qa YJ).f2) ((Qd Qa YJ).f3) ((Qd Qa YJ).f4) _ _ WF _ _ (Ya (QE Qc GE) YJ) qag _ ?side1 ?side2 ?side3 ?side4 ?side5 ?side6 ?side7 ?side8 ?side9 A22.out).mono ?_
                  (case side1=>exact Kd.V_mk qf1.out (Kd.F_below (Kd.C_F (Kd.heap_int .i64) qbS.out) (by repeat (first|(with_reducible first|exact HB.out|apply Q2|apply Q0|apply Q3|refine Q7 ?_ OS.out)|exact HB.out))))
                  (case side2=>repeat (first|exact (Kd.C_below qbT.out HB.out)|(with_reducible refine Kd.C_alloc ?_ _)|(with_reducible refine Kd.C_drewN ?_ _)|(with_reducible refine Kd.C_drew ?_)))
                  (case side3=>exact qf2.out)
                  (case side4=>repeat (first|exact (Kd.C_below qbU.out HB.out)|(with_reducible refine Kd.C_alloc ?_ _)|(with_reducible refine Kd.C_drewN ?_ _)|(with_reducible refine Kd.C_drew ?_)))
                  (case side5=>exact qf3.out)
                  (case side6=>repeat (first|exact (Kd.R_reads' HO_10.out).2.2|(with_reducible refine Kd.C_alloc ?_ _)|(with_reducible refine Kd.C_drewN ?_ _)|(with_reducible refine Kd.C_drew ?_)))
                  (case side7=>exact (Kd.R_reads' HO_10.out).2.1)
                  (case side8=>repeat (first|exact (Kd.C_below qbW.out HB.out)|(with_reducible refine Kd.C_alloc ?_ _)|(with_reducible refine Kd.C_drewN ?_ _)|(with_reducible refine Kd.C_drew ?_)))
                  (case side9=>exact qf4.out)
                  rintro e w34 ⟨qGY,rfl,ho0,hb⟩;refine ⟨_,rfl,?_⟩;have n0_:=Q1.mk (Kd.R_elder' (by (with_reducible repeat (first|apply Kd.R_alloc|apply Kd.R_drewN|apply Kd.R_drew));exact HO_10.out) (Kd.R_base ho0) hb);have n1_:=Q1.mk (Kd.R_lower (Kd.R_new' (Kd.R_mono (ok':=fun k_=>True) ho0 (fun _ hk_=>trivial)) (Kd.R_lt (by (with_reducible repeat (first|apply Kd.R_alloc|apply Kd.R_drewN|apply Kd.R_drew));exact HO_10.out))) (Qf (by repeat (first|(with_reducible first|exact HB.out|apply Q2|apply Q0|apply Q3|refine Q7 ?_ OS.out)|exact HB.out))));have n2_:=Q1.mk (Qg (g:=JA) (by (with_reducible repeat (first|refine Q5 ?_ _|refine Q9 ?_|refine Q4 ?_ _));exact YH.out) hb);have n3_:=Q1.mk (Qi (by repeat (first|(with_reducible first|exact HB.out|apply Q2|apply Q0|apply Q3|refine Q7 ?_ OS.out)|exact HB.out)) hb);clear HO_10 YH HB;have HO_10:=n0_;have qh0:=n1_;have YH:=n2_;have HB:=n3_;clear n0_ n1_ n2_ n3_
                  (try clear hb)
                  (try clear hb2)
                  (try clear hk)
                  (try clear hi)
                  (try clear ho0)
                  obtain ⟨qJn,qJv,qxt⟩:=Kd.R_slice qh0.out
                  (first|subst qxt|(injection qxt with f1_ f2_ f3_;have f4_:=f1_.symm;have f5_:=f3_.symm;clear f1_ f2_ f3_;subst f4_;subst f5_))
                  have qkr:0≤(Yx:Int):=of_decide_eq_true (by first|(with_reducible assumption)|assumption);have qkJ:Yx<(qag.length:Int):=of_decide_eq_true (by first|(with_reducible assumption)|assumption);obtain ⟨qxl,quT,qsa⟩:=Kd.at_int (Kd.R_reads' qh0.out).2.2 Yx qkr qkJ;cases quT;replace qkr:=eq_true qkr;replace qkJ:=eq_true qkJ;refine hK.out _ _ ⟨(Q6 YH.out 0).trans rfl,(Q6 YH.out 1).trans rfl,(Q6 YH.out 2).trans rfl,((HB.out.cell (World.block_lt_of_cell? w _ W6)).trans W6),((HB.out.cell (World.block_lt_of_cell? w _ W7)).trans W7),((HB.out.cell (World.block_lt_of_cell? w _ W8)).trans W8),((HB.out.cell (World.block_lt_of_cell? w _ W9)).trans W9),((HB.out.cell (World.block_lt_of_cell? w _ Wa)).trans Wa),((HB.out.cell (World.block_lt_of_cell? w _ Wc)).trans Wc),((HB.out.cell (World.block_lt_of_cell? w _ Wd)).trans Wd),((HB.out.cell (World.block_lt_of_cell? w _ Wg)).trans Wg),((HB.out.cell (World.block_lt_of_cell? w _ Wh)).trans Wh),((HB.out.cell (World.block_lt_of_cell? w _ Wi)).trans Wi),((HB.out.cell (World.block_lt_of_cell? w _ Wj)).trans Wj),((HB.out.cell (World.block_lt_of_cell? w _ Wk)).trans Wk)⟩ (fun hHeld => ?_);clear hK K;refine GA (a':=?_) ?_ ?_
                  rotate_left
                  ·
                   show Act.put _ (some 63) _=_
                   simp only [Act.put,List.setIfInBounds_toArray,List.set_cons_zero,List.set_cons_succ,QC,QD]
                   rfl
                  refine Y2 (i:=16) (N:=some 65) (v:=?_) (a':=?_) #[true,true,true,true,true,true,true,true,true,true,true,true,true,true,true,true,true,false,true,true,true,true,true,true,false] rfl rfl (QJ HT_.out (by kernel_rfl)) (fun _ _ _ h=>h) (Or.inl ⟨by rfl,?_⟩) ?_ ?_
                  rotate_left
                  ·
                   intro w'
                   go_simp
                   with_reducible rfl
                  rotate_left
                  ·
                   simp only [Act.put,List.setIfInBounds_toArray,List.set_cons_zero,List.set_cons_succ,QC,QD]
                   rfl
                  refine one_ (i:=17) (N:=some 66) #[true,true,true,true,true,true,true,true,true,true,true,true,true,true,true,true,true,true,true,true,true,true,true,true,false] rfl rfl (GD HT_.out (by kernel_rfl)) (by decide) (fun K hK => ?_);refine qbw (v:=.int .i64 (rd qag Yx)) rfl (by go_simp;rfl) ?_;refine hK.out _ _ hHeld (fun hHeld => ?_);clear hK K;refine GA (a':=?_) ?_ ?_
                  rotate_left
                  ·
                   show Act.put _ (some 66) _=_
                   simp only [Act.put,List.setIfInBounds_toArray,List.set_cons_zero,List.set_cons_succ,QC,QD]
                   rfl
                  refine Y2 (i:=24) (N:=some 73) (v:=?_) (a':=?_) #[true,true,true,true,true,true,true,true,true,true,true,true,true,true,true,true,true,true,true,true,true,true,true,true,true] rfl rfl (QJ HT_.out (by kernel_rfl)) (fun _ _ _ h=>h) (Or.inl ⟨by rfl,?_⟩) ?_ ?_
                  rotate_left
                  ·
                   intro w'
                   go_simp
                   with_reducible rfl
                  rotate_left
                  ·
                   simp only [Act.put,List.setIfInBounds_toArray,List.set_cons_zero,List.set_cons_succ,QC,QD]
                   rfl
                  refine Wu (KC HT_.out (by kernel_rfl)) ?_
                  try go_wp2
                  go_roundg k4
                  case measure=>have:=HK1.out;have:=HK2.out;have:=HK3.out;have:=HK4.out;omega
                  case rel=>exact ⟨(wrap64 (GE+1)),(by first|rfl|(simp;done)|(simp [*];done)),H',⟨by have:=HK1.out;have:=HK2.out;have:=HK3.out;have:=HK4.out;omega⟩,⟨by (with_reducible repeat (first|apply Kd.R_alloc|apply Kd.R_drewN|apply Kd.R_drew));exact Kd.R_mono HO_10.out (fun _ hk=>trivial)⟩,⟨by (with_reducible repeat (first|refine Q5 ?_ _|refine Q9 ?_|refine Q4 ?_ _));exact YH.out⟩,⟨by repeat (first|(with_reducible first|exact HB.out|apply Q2|apply Q0|apply Q3|refine Q7 ?_ OS.out)|exact HB.out)⟩⟩
                 rw [if_neg c24] at H
                 exact absurd H (by simp)
                rw [if_neg c23] at H
                exact absurd H (by simp)
               rw [if_neg c21] at H
               exact absurd H (by simp)
              rw [if_neg c20] at H
              exact absurd H (by simp)
             rw [if_neg c19] at H
             exact absurd H (by simp)
            rw [if_neg c18] at H
            exact absurd H (by simp)
           rw [if_neg c17] at H;have c17b0:decide (GE<(Qc.length:Int))=false:=decide_eq_false c17;clear c17;have H':=Q1.mk H;clear H;have qq3:wr.cell? ⟨JA,0,none⟩=some (.slice Qy Qa.length Qr):=(Q6 YH.out 0).trans rfl;have qq4:wr.cell? ⟨JA,1,none⟩=some (.slice Qv Qe.length Qs):=(Q6 YH.out 1).trans rfl;have qq5:wr.cell? ⟨JA,2,none⟩=some (.slice Qz Qc.length Qt):=(Q6 YH.out 2).trans rfl;have qrH:=Q8 YH.out 0;have qrI:=Q8 YH.out 1;have qrJ:=Q8 YH.out 2
           go_wp2
           go_roundg k4
           case measure=>have:=HK1.out;have:=HK2.out;have:=HK3.out;have:=HK4.out;omega
           case rel=>exact ⟨(wrap64 (YJ+1)),(by first|rfl|(simp;done)|(simp [*];done)),H',⟨by have:=HK1.out;have:=HK2.out;have:=HK3.out;have:=HK4.out;omega⟩,⟨by (with_reducible repeat (first|refine Q5 ?_ _|refine Q9 ?_|refine Q4 ?_ _));exact YH.out⟩,⟨by repeat (first|(with_reducible first|exact HB.out|apply Q2|apply Q0|apply Q3|refine Q7 ?_ OS.out)|exact HB.out)⟩⟩
      rw [if_neg c8] at H;have c8b0:decide (YJ<(Qa.length:Int))=false:=decide_eq_false c8;clear c8;have H':=Q1.mk H;clear H;have qgm:wr.cell? ⟨JA,0,none⟩=some (.slice Qy Qa.length Qr):=(Q6 YH.out 0).trans rfl;have qgn:wr.cell? ⟨JA,1,none⟩=some (.slice Qv Qe.length Qs):=(Q6 YH.out 1).trans rfl;have qgo:wr.cell? ⟨JA,2,none⟩=some (.slice Qz Qc.length Qt):=(Q6 YH.out 2).trans rfl;have qgB:=Q8 YH.out 0;have qgC:=Q8 YH.out 1;have qgD:=Q8 YH.out 2
      go_wp2
      go_roundg k2
      case measure=>have:=HK1.out;have:=HK2.out;omega
      case rel=>exact ⟨(wrap64 (Yx+1)),(by first|rfl|(simp;done)|(simp [*];done)),H',⟨by have:=HK1.out;have:=HK2.out;omega⟩,⟨by (with_reducible repeat (first|refine Q5 ?_ _|refine Q9 ?_|refine Q4 ?_ _));exact YH.out⟩,⟨by repeat (first|(with_reducible first|exact HB.out|apply Q2|apply Q0|apply Q3|refine Q7 ?_ OS.out)|exact HB.out)⟩⟩
   rw [if_neg c5] at H
   have c5b0:decide (Yx<qjz)=false:=decide_eq_false c5
   clear c5
   simp only [Option.some.injEq,Prod.mk.injEq] at H
   obtain ⟨rfl,rfl,rfl,rfl⟩:=H
   have qq6:wr.cell? ⟨JA,0,none⟩=some (.slice Qy Qa.length Qr):=(Q6 YH.out 0).trans rfl
   have qz5:wr.cell? ⟨JA,1,none⟩=some (.slice Qv Qe.length Qs):=(Q6 YH.out 1).trans rfl
   have qz6:wr.cell? ⟨JA,2,none⟩=some (.slice Qz Qc.length Qt):=(Q6 YH.out 2).trans rfl
   have qrK:=Q8 YH.out 0
   have qBU:=Q8 YH.out 1
   have qBV:=Q8 YH.out 2
   go_wp2_with (first|((with_reducible refine Qu (f:=84) rfl ?_);refine Yk (some 15) rfl rfl Try.func84 (by kernel_rfl) rfl #[.agg #[.slice Qy Qa.length Qr,.slice Qv Qe.length Qs,.slice Qz Qc.length Qt]] rfl (by (try simp only [List.map_toArray,List.map_cons,List.map_nil]);first|done|rfl|(simp only [List.length_drop,List.length_take];rfl)) ?_;(with_reducible refine (Yw.calls _ _ Qa _ _ Qe _ _ Qc qjz _ ?side1 ?side2 ?side3 ?side4 ?side5 ?side6 A4.out).mono ?_);(case side1=>repeat (first|exact (Kd.C_below Z1.out HB.out)|(with_reducible refine Kd.C_alloc ?_ _)|(with_reducible refine Kd.C_drewN ?_ _)|(with_reducible refine Kd.C_drew ?_)));(case side2=>exact Zh.out);(case side3=>repeat (first|exact (Kd.C_below Z0.out HB.out)|(with_reducible refine Kd.C_alloc ?_ _)|(with_reducible refine Kd.C_drewN ?_ _)|(with_reducible refine Kd.C_drew ?_)));(case side4=>exact Z9.out);(case side5=>repeat (first|exact (Kd.C_below YV.out HB.out)|(with_reducible refine Kd.C_alloc ?_ _)|(with_reducible refine Kd.C_drewN ?_ _)|(with_reducible refine Kd.C_drew ?_)));(case side6=>exact Zd.out);rintro e w39 ⟨rfl,hb⟩;refine ⟨_,rfl,?_⟩;have n0_:=Q1.mk (Qg (g:=JA) (by (with_reducible repeat (first|refine Q5 ?_ _|refine Q9 ?_|refine Q4 ?_ _));exact YH.out) hb);have n1_:=Q1.mk (Qi (by repeat (first|(with_reducible first|exact HB.out|apply Q2|apply Q0|apply Q3|refine Q7 ?_ OS.out)|exact HB.out)) hb);clear YH HB;have YH:=n0_;have HB:=n1_;clear n0_ n1_;(try clear hb);(try clear hb2);(try clear hk);(try clear hi)))
   refine bodyPost_ret (G8 (rs:=[.tmp 4,.tmp 5,.tmp 6,.tmp 7]) rfl (by simp) (.tmp (.tmp (.tmp (.tmp .nil))))) rfl ?_
   exact ⟨by first|rfl|(simp [Qw,Qx]<;>rfl)|(simp [*,Qw,Qx]<;>rfl),by repeat (first|(with_reducible first|exact HB.out|apply Q2|apply Q0|apply Q3|refine Q7 ?_ OS.out)|exact HB.out)⟩
end
section
attribute [local go_sem] YC YE Z2 Z3 Yr Ys YD YF
def QX.l0:Nat→Int→Int→List (S39)→List Int→List (List (List Int))→Option (Int × Int)
 | 0,_,_,_,_,_=>none
 | k+1,x9,x10,qhD,qhE,qhF=>if (wrap64 (x10-x9))>1 then ((Qk.f k qhD qhE qhF (wrap64 (Int.tdiv (wrap64 (x9+x10)) 2))).bind fun qh8=>(if qh8.2.2.2=true then (QX.l0 k x9 (wrap64 (Int.tdiv (wrap64 (x9+x10)) 2)) qhD qhE qhF) else (QX.l0 k (wrap64 (Int.tdiv (wrap64 (x9+x10)) 2)) x10 qhD qhE qhF))) else (some (x9,0))
def QX.f (k:Nat) (Qa:List (S39)) (Qe:List Int) (Qc:List (List (List Int))):Option (Int × Int):=(Qb.f k Qa Qe Qc).bind fun qa8=>(if qa8=0 then ((Qk.f k Qa Qe Qc 0).bind fun qh7=>(if qh7.2.2.2=true then (some (0,4)) else (QX.l0 k 0 10001 Qa Qe Qc))) else (some (0,qa8)))
set_option maxHeartbeats 8000000 in
set_option maxRecDepth 100000 in
theorem QX.calls (k:Nat) (Qy:Option Addr) (Qr:Nat) (Qa:List (S39)) (Qv:Option Addr) (Qs:Nat) (Qe:List Int) (Qz:Option Addr) (Qt:Nat) (Qc:List (List (List Int))) (r1:Int) (r2:Int) (w:World) (ZR:Kd.C k39 w Qy Qa.length Qa) (ZW:Qa.length≤Qr) (ZL:Kd.C (Kd.int .i64) w Qv Qe.length Qe) (ZO:Qe.length≤Qs) (ZM:Kd.C (Kd.slice 37 (Kd.slice 3 (Kd.int .i64))) w Qz Qc.length Qc) (ZP:Qc.length≤Qt) (h:QX.f k Qa Qe Qc=some (r1,r2)) :
  Calls Try.prog 29 #[.agg #[.slice Qy Qa.length Qr,.slice Qv Qe.length Qs,.slice Qz Qc.length Qt]] w fun e w'=>e = .returned (.tuple #[.int .i64 r1,.int .i64 r2])∧Below w.heap.size w w':=by
 have qgO:=Try.underlying47
 have Z1:=Q1.mk ZR
 have Zh:=Q1.mk ZW
 clear ZR ZW
 have Z0:=Q1.mk ZL
 have Z9:=Q1.mk ZO
 clear ZL ZO
 have YV:=Q1.mk ZM
 have Zd:=Q1.mk ZP
 clear ZM ZP
 have HB:=Q1.mk (Below.refl w.heap.size w)
 have H:((Qb.f k Qa Qe Qc).bind fun qa8=>(if qa8=0 then ((Qk.f k Qa Qe Qc 0).bind fun qh7=>(if qh7.2.2.2=true then (some (0,4)) else (QX.l0 k 0 10001 Qa Qe Qc))) else (some (0,qa8))))=some (r1,r2):=h
 clear h
 replace H:=Option.bind_eq_some_iff.mp H
 obtain ⟨qa8,A20,H⟩:=H
 replace H:(if qa8=0 then ((Qk.f k Qa Qe Qc 0).bind fun qh7=>(if qh7.2.2.2=true then (some (0,4)) else (QX.l0 k 0 10001 Qa Qe Qc))) else (some (0,qa8)))=some (r1,r2):=H
 have A2:=Q1.mk A20
 clear A20
 by_cases c3:qa8=0
 ·
  rw [if_pos c3] at H
  have c3b0:(qa8==0)=true:=beq_iff_eq.mpr c3
  have c3b1:(qa8 != 0)=false:=bne_eq_false_iff_eq.mpr c3
  clear c3
  replace H:=Option.bind_eq_some_iff.mp H
  obtain ⟨⟨qzv,qzw,qzx,qzy⟩,A40,H⟩:=H
  replace H:(if qzy=true then (some (0,4)) else (QX.l0 k 0 10001 Qa Qe Qc))=some (r1,r2):=H
  have A4:=Q1.mk A40
  clear A40
  by_cases c5:qzy=true
  ·
   subst c5
   have H1:(some (0,4))=some (r1,r2):=by rw [if_pos rfl] at H;exact H
   clear H
   have H:=H1
   clear H1
   simp only [Option.some.injEq,Prod.mk.injEq] at H
   obtain ⟨rfl,rfl⟩:=H
   go_enter Try.func29,Try.ntmps29
   go_wp2_with (first|((with_reducible refine QR (N:=1) rfl ?_);refine Yf ?hg (N:=1) ?hd (cs:=#[.slice Qy Qa.length Qr,.slice Qv Qe.length Qs,.slice Qz Qc.length Qt]) (t:=47) ?hr ?_;(case hd=>rfl);(case hg=>rfl);(case hr=>first|(go_simp;done)|(go_simp;rfl));intro JY hg w6 hbox hb;have n0_:=Q1.mk (Qi (by repeat (first|(with_reducible first|exact HB.out|apply Q2|apply Q0|apply Q3)|exact HB.out)) hb);have n1_:=Q1.mk (hbox);have n2_:=Q1.mk ((by rw [hg];exact (Qf (by repeat (first|(with_reducible first|exact HB.out|apply Q2|apply Q0|apply Q3)|exact HB.out))):w.heap.size≤JY));have n3_:=n2_;clear HB;have HB:=n0_;have Zg:=n1_;have qta:=n2_;have Wt:=n3_;clear n0_ n1_ n2_ n3_ hb hbox hg;have qdf:w6.cell? ⟨JY,0,none⟩=some (.slice Qy Qa.length Qr):=(Q6 Zg.out 0).trans rfl;have qdg:w6.cell? ⟨JY,1,none⟩=some (.slice Qv Qe.length Qs):=(Q6 Zg.out 1).trans rfl;have qdh:w6.cell? ⟨JY,2,none⟩=some (.slice Qz Qc.length Qt):=(Q6 Zg.out 2).trans rfl;have qdi:=Q8 Zg.out 0;have qdj:=Q8 Zg.out 1;have qdk:=Q8 Zg.out 2)|((with_reducible refine Qu (f:=31) rfl ?_);refine Yk (some 17) rfl rfl Try.func31 (by kernel_rfl) rfl #[.agg #[.slice Qy Qa.length Qr,.slice Qv Qe.length Qs,.slice Qz Qc.length Qt]] rfl (by (try simp only [List.map_toArray,List.map_cons,List.map_nil]);first|done|rfl|(simp only [List.length_drop,List.length_take];rfl)) ?_;(with_reducible refine (Qb.calls k _ _ Qa _ _ Qe _ _ Qc qa8 _ ?side1 ?side2 ?side3 ?side4 ?side5 ?side6 A2.out).mono ?_);(case side1=>repeat (first|exact (Kd.C_below Z1.out HB.out)|(with_reducible refine Kd.C_alloc ?_ _)|(with_reducible refine Kd.C_drewN ?_ _)|(with_reducible refine Kd.C_drew ?_)));(case side2=>exact Zh.out);(case side3=>repeat (first|exact (Kd.C_below Z0.out HB.out)|(with_reducible refine Kd.C_alloc ?_ _)|(with_reducible refine Kd.C_drewN ?_ _)|(with_reducible refine Kd.C_drew ?_)));(case side4=>exact Z9.out);(case side5=>repeat (first|exact (Kd.C_below YV.out HB.out)|(with_reducible refine Kd.C_alloc ?_ _)|(with_reducible refine Kd.C_drewN ?_ _)|(with_reducible refine Kd.C_drew ?_)));(case side6=>exact Zd.out);rintro e w8 ⟨rfl,hb⟩;refine ⟨_,rfl,?_⟩;have n0_:=Q1.mk (Qg (g:=JY) (by (with_reducible repeat (first|refine Q5 ?_ _|refine Q9 ?_|refine Q4 ?_ _));exact Zg.out) hb);have n1_:=Q1.mk (Qi (by repeat (first|(with_reducible first|exact HB.out|apply Q2|apply Q0|apply Q3|refine Q7 ?_ Wt.out)|exact HB.out)) hb);clear Zg HB;have Zg:=n0_;have HB:=n1_;clear n0_ n1_;(try clear hb);(try clear hb2);(try clear hk);(try clear hi);have GH:w8.cell? ⟨JY,0,none⟩=some (.slice Qy Qa.length Qr):=(Q6 Zg.out 0).trans rfl;have GI:w8.cell? ⟨JY,1,none⟩=some (.slice Qv Qe.length Qs):=(Q6 Zg.out 1).trans rfl;have GJ:w8.cell? ⟨JY,2,none⟩=some (.slice Qz Qc.length Qt):=(Q6 Zg.out 2).trans rfl;have GK:=Q8 Zg.out 0;have GL:=Q8 Zg.out 1;have GM:=Q8 Zg.out 2)|((with_reducible refine Qu (f:=83) rfl ?_);refine Yk (some 23) rfl rfl Try.func83 (by kernel_rfl) rfl #[.agg #[.slice Qy Qa.length Qr,.slice Qv Qe.length Qs,.slice Qz Qc.length Qt],.int .i64 0] rfl (by (try simp only [List.map_toArray,List.map_cons,List.map_nil]);first|done|rfl|(simp only [List.length_drop,List.length_take];rfl)) ?_;(with_reducible refine (Qk.calls k _ _ Qa _ _ Qe _ _ Qc 0 qzv qzw qzx true _ ?side1 ?side2 ?side3 ?side4 ?side5 ?side6 A4.out).mono ?_);(case side1=>repeat (first|exact (Kd.C_below Z1.out HB.out)|(with_reducible refine Kd.C_alloc ?_ _)|(with_reducible refine Kd.C_drewN ?_ _)|(with_reducible refine Kd.C_drew ?_)));(case side2=>exact Zh.out);(case side3=>repeat (first|exact (Kd.C_below Z0.out HB.out)|(with_reducible refine Kd.C_alloc ?_ _)|(with_reducible refine Kd.C_drewN ?_ _)|(with_reducible refine Kd.C_drew ?_)));(case side4=>exact Z9.out);(case side5=>repeat (first|exact (Kd.C_below YV.out HB.out)|(with_reducible refine Kd.C_alloc ?_ _)|(with_reducible refine Kd.C_drewN ?_ _)|(with_reducible refine Kd.C_drew ?_)));(case side6=>exact Zd.out);rintro e w10 ⟨rfl,hb⟩;refine ⟨_,rfl,?_⟩;have n0_:=Q1.mk (Qg (g:=JY) (by (with_reducible repeat (first|refine Q5 ?_ _|refine Q9 ?_|refine Q4 ?_ _));exact Zg.out) hb);have n1_:=Q1.mk (Qi (by repeat (first|(with_reducible first|exact HB.out|apply Q2|apply Q0|apply Q3|refine Q7 ?_ Wt.out)|exact HB.out)) hb);clear Zg HB;have Zg:=n0_;have HB:=n1_;clear n0_ n1_;(try clear hb);(try clear hb2);(try clear hk);(try clear hi)))
   go_ret2
   exact ⟨by first|rfl|(simp [Qw,Qx]<;>rfl)|(simp [*,Qw,Qx]<;>rfl),by repeat (first|(with_reducible first|exact HB.out|apply Q2|apply Q0|apply Q3|refine Q7 ?_ Wt.out)|exact HB.out)⟩
  replace c5:=Bool.eq_false_iff.mpr c5
  subst c5
  have H1:(QX.l0 k 0 10001 Qa Qe Qc)=some (r1,r2):=by rw [if_neg (show ¬ (false=true) by decide)] at H;exact H
  clear H
  have H:=H1
  clear H1
  have H':=Q1.mk H
  clear H
  go_enter Try.func29,Try.ntmps29
  go_wp2_with (first|((with_reducible refine QR (N:=1) rfl ?_);refine Yf ?hg (N:=1) ?hd (cs:=#[.slice Qy Qa.length Qr,.slice Qv Qe.length Qs,.slice Qz Qc.length Qt]) (t:=47) ?hr ?_;(case hd=>rfl);(case hg=>rfl);(case hr=>first|(go_simp;done)|(go_simp;rfl));intro JY hg w11 hbox hb;have n0_:=Q1.mk (Qi (by repeat (first|(with_reducible first|exact HB.out|apply Q2|apply Q0|apply Q3)|exact HB.out)) hb);have n1_:=Q1.mk (hbox);have n2_:=Q1.mk ((by rw [hg];exact (Qf (by repeat (first|(with_reducible first|exact HB.out|apply Q2|apply Q0|apply Q3)|exact HB.out))):w.heap.size≤JY));have n3_:=n2_;clear HB;have HB:=n0_;have Zg:=n1_;have qta:=n2_;have Wt:=n3_;clear n0_ n1_ n2_ n3_ hb hbox hg;have Gl:w11.cell? ⟨JY,0,none⟩=some (.slice Qy Qa.length Qr):=(Q6 Zg.out 0).trans rfl;have Gm:w11.cell? ⟨JY,1,none⟩=some (.slice Qv Qe.length Qs):=(Q6 Zg.out 1).trans rfl;have Gt:w11.cell? ⟨JY,2,none⟩=some (.slice Qz Qc.length Qt):=(Q6 Zg.out 2).trans rfl;have Gn:=Q8 Zg.out 0;have Gp:=Q8 Zg.out 1;have Gu:=Q8 Zg.out 2)|((with_reducible refine Qu (f:=31) rfl ?_);refine Yk (some 17) rfl rfl Try.func31 (by kernel_rfl) rfl #[.agg #[.slice Qy Qa.length Qr,.slice Qv Qe.length Qs,.slice Qz Qc.length Qt]] rfl (by (try simp only [List.map_toArray,List.map_cons,List.map_nil]);first|done|rfl|(simp only [List.length_drop,List.length_take];rfl)) ?_;(with_reducible refine (Qb.calls k _ _ Qa _ _ Qe _ _ Qc qa8 _ ?side1 ?side2 ?side3 ?side4 ?side5 ?side6 A2.out).mono ?_);(case side1=>repeat (first|exact (Kd.C_below Z1.out HB.out)|(with_reducible refine Kd.C_alloc ?_ _)|(with_reducible refine Kd.C_drewN ?_ _)|(with_reducible refine Kd.C_drew ?_)));(case side2=>exact Zh.out);(case side3=>repeat (first|exact (Kd.C_below Z0.out HB.out)|(with_reducible refine Kd.C_alloc ?_ _)|(with_reducible refine Kd.C_drewN ?_ _)|(with_reducible refine Kd.C_drew ?_)));(case side4=>exact Z9.out);(case side5=>repeat (first|exact (Kd.C_below YV.out HB.out)|(with_reducible refine Kd.C_alloc ?_ _)|(with_reducible refine Kd.C_drewN ?_ _)|(with_reducible refine Kd.C_drew ?_)));(case side6=>exact Zd.out);rintro e w13 ⟨rfl,hb⟩;refine ⟨_,rfl,?_⟩;have n0_:=Q1.mk (Qg (g:=JY) (by (with_reducible repeat (first|refine Q5 ?_ _|refine Q9 ?_|refine Q4 ?_ _));exact Zg.out) hb);have n1_:=Q1.mk (Qi (by repeat (first|(with_reducible first|exact HB.out|apply Q2|apply Q0|apply Q3|refine Q7 ?_ Wt.out)|exact HB.out)) hb);clear Zg HB;have Zg:=n0_;have HB:=n1_;clear n0_ n1_;(try clear hb);(try clear hb2);(try clear hk);(try clear hi);have JL:w13.cell? ⟨JY,0,none⟩=some (.slice Qy Qa.length Qr):=(Q6 Zg.out 0).trans rfl;have JM:w13.cell? ⟨JY,1,none⟩=some (.slice Qv Qe.length Qs):=(Q6 Zg.out 1).trans rfl;have JN:w13.cell? ⟨JY,2,none⟩=some (.slice Qz Qc.length Qt):=(Q6 Zg.out 2).trans rfl;have JO:=Q8 Zg.out 0;have JP:=Q8 Zg.out 1;have JQ:=Q8 Zg.out 2)|((with_reducible refine Qu (f:=83) rfl ?_);refine Yk (some 23) rfl rfl Try.func83 (by kernel_rfl) rfl #[.agg #[.slice Qy Qa.length Qr,.slice Qv Qe.length Qs,.slice Qz Qc.length Qt],.int .i64 0] rfl (by (try simp only [List.map_toArray,List.map_cons,List.map_nil]);first|done|rfl|(simp only [List.length_drop,List.length_take];rfl)) ?_;(with_reducible refine (Qk.calls k _ _ Qa _ _ Qe _ _ Qc 0 qzv qzw qzx false _ ?side1 ?side2 ?side3 ?side4 ?side5 ?side6 A4.out).mono ?_);(case side1=>repeat (first|exact (Kd.C_below Z1.out HB.out)|(with_reducible refine Kd.C_alloc ?_ _)|(with_reducible refine Kd.C_drewN ?_ _)|(with_reducible refine Kd.C_drew ?_)));(case side2=>exact Zh.out);(case side3=>repeat (first|exact (Kd.C_below Z0.out HB.out)|(with_reducible refine Kd.C_alloc ?_ _)|(with_reducible refine Kd.C_drewN ?_ _)|(with_reducible refine Kd.C_drew ?_)));(case side4=>exact Z9.out);(case side5=>repeat (first|exact (Kd.C_below YV.out HB.out)|(with_reducible refine Kd.C_alloc ?_ _)|(with_reducible refine Kd.C_drewN ?_ _)|(with_reducible refine Kd.C_drew ?_)));(case side6=>exact Zd.out);rintro e w15 ⟨rfl,hb⟩;refine ⟨_,rfl,?_⟩;have n0_:=Q1.mk (Qg (g:=JY) (by (with_reducible repeat (first|refine Q5 ?_ _|refine Q9 ?_|refine Q4 ?_ _));exact Zg.out) hb);have n1_:=Q1.mk (Qi (by repeat (first|(with_reducible first|exact HB.out|apply Q2|apply Q0|apply Q3|refine Q7 ?_ Wt.out)|exact HB.out)) hb);clear Zg HB;have Zg:=n0_;have HB:=n1_;clear n0_ n1_;(try clear hb);(try clear hb2);(try clear hk);(try clear hi)))
  go_loopg [9,10] k (fun kq v9 v10 w' => ∃ (ZY:Int) (Ug:Int),v9 = .int .i64 ZY∧v10 = .int .i64 Ug∧Q1 (QX.l0 kq ZY Ug Qa Qe Qc=some (r1,r2))∧Q1 (kq≤k)∧Q1 (w'.heap[JY]? = some (.cells #[(.slice Qy Qa.length Qr),(.slice Qv Qe.length Qs),(.slice Qz Qc.length Qt)] 47 (0,0)))∧Q1 (Below w.heap.size w w'))
  case atStart=>exact ⟨(0),(10001),(by first|rfl|(simp;done)|(simp [*];done)),(by first|rfl|(simp;done)|(simp [*];done)),H',⟨Nat.le_refl _⟩,⟨by (with_reducible repeat (first|refine Q5 ?_ _|refine Q9 ?_|refine Q4 ?_ _));exact Zg.out⟩,⟨by repeat (first|(with_reducible first|exact HB.out|apply Q2|apply Q0|apply Q3|refine Q7 ?_ Wt.out)|exact HB.out)⟩⟩
  case round =>
   clear H'
   try clear c2
   try clear p2
   try clear c3
   try clear c3b0
   try clear c3b1
   try clear c5
   try clear c8
   try clear Gl
   try clear Gm
   try clear Gt
   try clear JL
   try clear JM
   try clear JN
   try clear qdf
   try clear qdg
   try clear qdh
   try clear GH
   try clear GI
   try clear GJ
   try clear Gn
   try clear Gp
   try clear Gu
   try clear JO
   try clear JP
   try clear JQ
   try clear qdi
   try clear qdj
   try clear qdk
   try clear GK
   try clear GL
   try clear GM
   obtain ⟨ZY,Ug,rfl,rfl,HA,HK1,Zg,HB⟩:=hrel
   cases gk with
   | zero=>exact absurd HA.out (by simp [QX.l0])
   | succ k1 =>
    have H:=HA.out;clear HA;simp only [QX.l0] at H
    by_cases c16:(wrap64 (Ug-ZY))>1
    ·
     rw [if_pos c16] at H;have c16b0:decide (1<(wrap64 (Ug-ZY)))=true:=decide_eq_true c16;clear c16;replace H:=Option.bind_eq_some_iff.mp H;obtain ⟨⟨qzz,qzA,qzB,qzC⟩,qhO,H⟩:=H;replace H:(if qzC=true then (QX.l0 k1 ZY (wrap64 (Int.tdiv (wrap64 (ZY+Ug)) 2)) Qa Qe Qc) else (QX.l0 k1 (wrap64 (Int.tdiv (wrap64 (ZY+Ug)) 2)) Ug Qa Qe Qc))=some (r1,r2):=H;have A17:=Q1.mk qhO;clear qhO
     by_cases c18:qzC=true
     ·
      subst c18
      have H1:(QX.l0 k1 ZY (wrap64 (Int.tdiv (wrap64 (ZY+Ug)) 2)) Qa Qe Qc)=some (r1,r2):=by rw [if_pos rfl] at H;exact H
      clear H;have H:=H1;clear H1;have H':=Q1.mk H;clear H;have qqM:wr.cell? ⟨JY,0,none⟩=some (.slice Qy Qa.length Qr):=(Q6 Zg.out 0).trans rfl;have qqN:wr.cell? ⟨JY,1,none⟩=some (.slice Qv Qe.length Qs):=(Q6 Zg.out 1).trans rfl;have qqO:wr.cell? ⟨JY,2,none⟩=some (.slice Qz Qc.length Qt):=(Q6 Zg.out 2).trans rfl;have qrq:=Q8 Zg.out 0;have qrr:=Q8 Zg.out 1;have qrs:=Q8 Zg.out 2
      go_wp2_with (first|((with_reducible refine Qu (f:=83) rfl ?_);refine Yk (some 40) rfl rfl Try.func83 (by kernel_rfl) rfl #[.agg #[.slice Qy Qa.length Qr,.slice Qv Qe.length Qs,.slice Qz Qc.length Qt],.int .i64 (wrap64 (Int.tdiv (wrap64 (ZY+Ug)) 2))] rfl (by (try simp only [List.map_toArray,List.map_cons,List.map_nil]);first|done|rfl|(simp only [List.length_drop,List.length_take];rfl)) ?_;(with_reducible refine (Qk.calls k1 _ _ Qa _ _ Qe _ _ Qc (wrap64 (Int.tdiv (wrap64 (ZY+Ug)) 2)) qzz qzA qzB true _ ?side1 ?side2 ?side3 ?side4 ?side5 ?side6 A17.out).mono ?_);(case side1=>repeat (first|exact (Kd.C_below Z1.out HB.out)|(with_reducible refine Kd.C_alloc ?_ _)|(with_reducible refine Kd.C_drewN ?_ _)|(with_reducible refine Kd.C_drew ?_)));(case side2=>exact Zh.out);(case side3=>repeat (first|exact (Kd.C_below Z0.out HB.out)|(with_reducible refine Kd.C_alloc ?_ _)|(with_reducible refine Kd.C_drewN ?_ _)|(with_reducible refine Kd.C_drew ?_)));(case side4=>exact Z9.out);(case side5=>repeat (first|exact (Kd.C_below YV.out HB.out)|(with_reducible refine Kd.C_alloc ?_ _)|(with_reducible refine Kd.C_drewN ?_ _)|(with_reducible refine Kd.C_drew ?_)));(case side6=>exact Zd.out);rintro e w20 ⟨rfl,hb⟩;refine ⟨_,rfl,?_⟩;have n0_:=Q1.mk (Qg (g:=JY) (by (with_reducible repeat (first|refine Q5 ?_ _|refine Q9 ?_|refine Q4 ?_ _));exact Zg.out) hb);have n1_:=Q1.mk (Qi (by repeat (first|(with_reducible first|exact HB.out|apply Q2|apply Q0|apply Q3|refine Q7 ?_ Wt.out)|exact HB.out)) hb);clear Zg HB;have Zg:=n0_;have HB:=n1_;clear n0_ n1_;(try clear hb);(try clear hb2);(try clear hk);(try clear hi)))
      go_roundg k1
      case measure=>have:=HK1.out;omega
      case rel=>exact ⟨(ZY),(wrap64 (Int.tdiv (wrap64 (ZY+Ug)) 2)),(by first|rfl|(simp;done)|(simp [*];done)),(by first|rfl|(simp;done)|(simp [*];done)),H',⟨by have:=HK1.out;omega⟩,⟨by (with_reducible repeat (first|refine Q5 ?_ _|refine Q9 ?_|refine Q4 ?_ _));exact Zg.out⟩,⟨by repeat (first|(with_reducible first|exact HB.out|apply Q2|apply Q0|apply Q3|refine Q7 ?_ Wt.out)|exact HB.out)⟩⟩
     replace c18:=Bool.eq_false_iff.mpr c18;subst c18
     have H1:(QX.l0 k1 (wrap64 (Int.tdiv (wrap64 (ZY+Ug)) 2)) Ug Qa Qe Qc)=some (r1,r2):=by rw [if_neg (show ¬ (false=true) by decide)] at H;exact H
     clear H;have H:=H1;clear H1;have H':=Q1.mk H;clear H;have Uy:wr.cell? ⟨JY,0,none⟩=some (.slice Qy Qa.length Qr):=(Q6 Zg.out 0).trans rfl;have Uz:wr.cell? ⟨JY,1,none⟩=some (.slice Qv Qe.length Qs):=(Q6 Zg.out 1).trans rfl;have UA:wr.cell? ⟨JY,2,none⟩=some (.slice Qz Qc.length Qt):=(Q6 Zg.out 2).trans rfl;have UB:=Q8 Zg.out 0;have UC:=Q8 Zg.out 1;have UD:=Q8 Zg.out 2
     go_wp2_with (first|((with_reducible refine Qu (f:=83) rfl ?_);refine Yk (some 40) rfl rfl Try.func83 (by kernel_rfl) rfl #[.agg #[.slice Qy Qa.length Qr,.slice Qv Qe.length Qs,.slice Qz Qc.length Qt],.int .i64 (wrap64 (Int.tdiv (wrap64 (ZY+Ug)) 2))] rfl (by (try simp only [List.map_toArray,List.map_cons,List.map_nil]);first|done|rfl|(simp only [List.length_drop,List.length_take];rfl)) ?_;(with_reducible refine (Qk.calls k1 _ _ Qa _ _ Qe _ _ Qc (wrap64 (Int.tdiv (wrap64 (ZY+Ug)) 2)) qzz qzA qzB false _ ?side1 ?side2 ?side3 ?side4 ?side5 ?side6 A17.out).mono ?_);(case side1=>repeat (first|exact (Kd.C_below Z1.out HB.out)|(with_reducible refine Kd.C_alloc ?_ _)|(with_reducible refine Kd.C_drewN ?_ _)|(with_reducible refine Kd.C_drew ?_)));(case side2=>exact Zh.out);(case side3=>repeat (first|exact (Kd.C_below Z0.out HB.out)|(with_reducible refine Kd.C_alloc ?_ _)|(with_reducible refine Kd.C_drewN ?_ _)|(with_reducible refine Kd.C_drew ?_)));(case side4=>exact Z9.out);(case side5=>repeat (first|exact (Kd.C_below YV.out HB.out)|(with_reducible refine Kd.C_alloc ?_ _)|(with_reducible refine Kd.C_drewN ?_ _)|(with_reducible refine Kd.C_drew ?_)));(case side6=>exact Zd.out);rintro e w22 ⟨rfl,hb⟩;refine ⟨_,rfl,?_⟩;have n0_:=Q1.mk (Qg (g:=JY) (by (with_reducible repeat (first|refine Q5 ?_ _|refine Q9 ?_|refine Q4 ?_ _));exact Zg.out) hb);have n1_:=Q1.mk (Qi (by repeat (first|(with_reducible first|exact HB.out|apply Q2|apply Q0|apply Q3|refine Q7 ?_ Wt.out)|exact HB.out)) hb);clear Zg HB;have Zg:=n0_;have HB:=n1_;clear n0_ n1_;(try clear hb);(try clear hb2);(try clear hk);(try clear hi)))
     go_roundg k1
     case measure=>have:=HK1.out;omega
     case rel=>exact ⟨(wrap64 (Int.tdiv (wrap64 (ZY+Ug)) 2)),(Ug),(by first|rfl|(simp;done)|(simp [*];done)),(by first|rfl|(simp;done)|(simp [*];done)),H',⟨by have:=HK1.out;omega⟩,⟨by (with_reducible repeat (first|refine Q5 ?_ _|refine Q9 ?_|refine Q4 ?_ _));exact Zg.out⟩,⟨by repeat (first|(with_reducible first|exact HB.out|apply Q2|apply Q0|apply Q3|refine Q7 ?_ Wt.out)|exact HB.out)⟩⟩
    rw [if_neg c16] at H;have c16b0:decide (1<(wrap64 (Ug-ZY)))=false:=decide_eq_false c16;clear c16;simp only [Option.some.injEq,Prod.mk.injEq] at H;obtain ⟨rfl,rfl⟩:=H
    go_wp2
    go_ret2
    exact ⟨by first|rfl|(simp [Qw,Qx]<;>rfl)|(simp [*,Qw,Qx]<;>rfl),by repeat (first|(with_reducible first|exact HB.out|apply Q2|apply Q0|apply Q3|refine Q7 ?_ Wt.out)|exact HB.out)⟩
 rw [if_neg c3] at H
 have c3b0:(qa8==0)=false:=beq_eq_false_iff_ne.mpr c3
 have c3b1:(qa8 != 0)=true:=bne_iff_ne.mpr c3
 simp only [Option.some.injEq,Prod.mk.injEq] at H
 obtain ⟨rfl,rfl⟩:=H
 go_enter Try.func29,Try.ntmps29
 go_wp2_with (first|((with_reducible refine QR (N:=1) rfl ?_);refine Yf ?hg (N:=1) ?hd (cs:=#[.slice Qy Qa.length Qr,.slice Qv Qe.length Qs,.slice Qz Qc.length Qt]) (t:=47) ?hr ?_;(case hd=>rfl);(case hg=>rfl);(case hr=>first|(go_simp;done)|(go_simp;rfl));intro JY hg w23 hbox hb;have n0_:=Q1.mk (Qi (by repeat (first|(with_reducible first|exact HB.out|apply Q2|apply Q0|apply Q3)|exact HB.out)) hb);have n1_:=Q1.mk (hbox);have n2_:=Q1.mk ((by rw [hg];exact (Qf (by repeat (first|(with_reducible first|exact HB.out|apply Q2|apply Q0|apply Q3)|exact HB.out))):w.heap.size≤JY));have n3_:=n2_;clear HB;have HB:=n0_;have Zg:=n1_;have qta:=n2_;have Wt:=n3_;clear n0_ n1_ n2_ n3_ hb hbox hg;have XH:w23.cell? ⟨JY,0,none⟩=some (.slice Qy Qa.length Qr):=(Q6 Zg.out 0).trans rfl;have XI:w23.cell? ⟨JY,1,none⟩=some (.slice Qv Qe.length Qs):=(Q6 Zg.out 1).trans rfl;have XJ:w23.cell? ⟨JY,2,none⟩=some (.slice Qz Qc.length Qt):=(Q6 Zg.out 2).trans rfl;have XQ:=Q8 Zg.out 0;have XR:=Q8 Zg.out 1;have XS:=Q8 Zg.out 2)|((with_reducible refine Qu (f:=31) rfl ?_);refine Yk (some 17) rfl rfl Try.func31 (by kernel_rfl) rfl #[.agg #[.slice Qy Qa.length Qr,.slice Qv Qe.length Qs,.slice Qz Qc.length Qt]] rfl (by (try simp only [List.map_toArray,List.map_cons,List.map_nil]);first|done|rfl|(simp only [List.length_drop,List.length_take];rfl)) ?_;(with_reducible refine (Qb.calls k _ _ Qa _ _ Qe _ _ Qc qa8 _ ?side1 ?side2 ?side3 ?side4 ?side5 ?side6 A2.out).mono ?_);(case side1=>repeat (first|exact (Kd.C_below Z1.out HB.out)|(with_reducible refine Kd.C_alloc ?_ _)|(with_reducible refine Kd.C_drewN ?_ _)|(with_reducible refine Kd.C_drew ?_)));(case side2=>exact Zh.out);(case side3=>repeat (first|exact (Kd.C_below Z0.out HB.out)|(with_reducible refine Kd.C_alloc ?_ _)|(with_reducible refine Kd.C_drewN ?_ _)|(with_reducible refine Kd.C_drew ?_)));(case side4=>exact Z9.out);(case side5=>repeat (first|exact (Kd.C_below YV.out HB.out)|(with_reducible refine Kd.C_alloc ?_ _)|(with_reducible refine Kd.C_drewN ?_ _)|(with_reducible refine Kd.C_drew ?_)));(case side6=>exact Zd.out);rintro e w25 ⟨rfl,hb⟩;refine ⟨_,rfl,?_⟩;have n0_:=Q1.mk (Qg (g:=JY) (by (with_reducible repeat (first|refine Q5 ?_ _|refine Q9 ?_|refine Q4 ?_ _));exact Zg.out) hb);have n1_:=Q1.mk (Qi (by repeat (first|(with_reducible first|exact HB.out|apply Q2|apply Q0|apply Q3|refine Q7 ?_ Wt.out)|exact HB.out)) hb);clear Zg HB;have Zg:=n0_;have HB:=n1_;clear n0_ n1_;(try clear hb);(try clear hb2);(try clear hk);(try clear hi)))
 go_ret2
 exact ⟨by first|rfl|(simp [Qw,Qx]<;>rfl)|(simp [*,Qw,Qx]<;>rfl),by repeat (first|(with_reducible first|exact HB.out|apply Q2|apply Q0|apply Q3|refine Q7 ?_ Wt.out)|exact HB.out)⟩
end
section
attribute [local go_sem] YC YE Z2 Z3 Yr Ys YD YF
def Zl.f (k:Nat) (Qa:List (S39)) (Qe:List Int) (Qc:List (List (List Int))) (a1:Int):Option (Int × Int × Int × Int):=(Qb.f k Qa Qe Qc).bind fun qaB=>(if qaB=0 then ((Qq.f a1 0 10000).bind fun qjA=>(if qjA=true then ((Qk.f k Qa Qe Qc a1).bind fun KB=>(if KB.2.2.2=true then (some (KB.1,KB.2.1,KB.2.2.1,0)) else (some (0,0,0,4)))) else (some (0,0,0,7)))) else (some (0,0,0,qaB)))
set_option maxHeartbeats 8000000 in
set_option maxRecDepth 100000 in
theorem Zl.calls (k:Nat) (Qy:Option Addr) (Qr:Nat) (Qa:List (S39)) (Qv:Option Addr) (Qs:Nat) (Qe:List Int) (Qz:Option Addr) (Qt:Nat) (Qc:List (List (List Int))) (a1:Int) (r1:Int) (r2:Int) (r3:Int) (r4:Int) (w:World) (ZR:Kd.C k39 w Qy Qa.length Qa) (ZW:Qa.length≤Qr) (ZL:Kd.C (Kd.int .i64) w Qv Qe.length Qe) (ZO:Qe.length≤Qs) (ZM:Kd.C (Kd.slice 37 (Kd.slice 3 (Kd.int .i64))) w Qz Qc.length Qc) (ZP:Qc.length≤Qt) (h:Zl.f k Qa Qe Qc a1=some (r1,r2,r3,r4)) :
  Calls Try.prog 33 #[.agg #[.slice Qy Qa.length Qr,.slice Qv Qe.length Qs,.slice Qz Qc.length Qt],.int .i64 a1] w fun e w'=>e = .returned (.tuple #[.int .i64 r1,.int .i64 r2,.int .i64 r3,.int .i64 r4])∧Below w.heap.size w w':=by
 have qgO:=Try.underlying47
 have Z1:=Q1.mk ZR
 have Zh:=Q1.mk ZW
 clear ZR ZW
 have Z0:=Q1.mk ZL
 have Z9:=Q1.mk ZO
 clear ZL ZO
 have YV:=Q1.mk ZM
 have Zd:=Q1.mk ZP
 clear ZM ZP
 have HB:=Q1.mk (Below.refl w.heap.size w)
 have H:((Qb.f k Qa Qe Qc).bind fun qaB=>(if qaB=0 then ((Qq.f a1 0 10000).bind fun qjA=>(if qjA=true then ((Qk.f k Qa Qe Qc a1).bind fun KB=>(if KB.2.2.2=true then (some (KB.1,KB.2.1,KB.2.2.1,0)) else (some (0,0,0,4)))) else (some (0,0,0,7)))) else (some (0,0,0,qaB))))=some (r1,r2,r3,r4):=h
 clear h
 replace H:=Option.bind_eq_some_iff.mp H
 obtain ⟨qaB,A30,H⟩:=H
 replace H:(if qaB=0 then ((Qq.f a1 0 10000).bind fun qjA=>(if qjA=true then ((Qk.f k Qa Qe Qc a1).bind fun KB=>(if KB.2.2.2=true then (some (KB.1,KB.2.1,KB.2.2.1,0)) else (some (0,0,0,4)))) else (some (0,0,0,7)))) else (some (0,0,0,qaB)))=some (r1,r2,r3,r4):=H
 have A3:=Q1.mk A30
 clear A30
 by_cases c4:qaB=0
 ·
  rw [if_pos c4] at H
  have c4b0:(qaB==0)=true:=beq_iff_eq.mpr c4
  have c4b1:(qaB != 0)=false:=bne_eq_false_iff_eq.mpr c4
  clear c4
  replace H:=Option.bind_eq_some_iff.mp H
  obtain ⟨qjA,A50,H⟩:=H
  replace H:(if qjA=true then ((Qk.f k Qa Qe Qc a1).bind fun KB=>(if KB.2.2.2=true then (some (KB.1,KB.2.1,KB.2.2.1,0)) else (some (0,0,0,4)))) else (some (0,0,0,7)))=some (r1,r2,r3,r4):=H
  have A5:=Q1.mk A50
  clear A50
  by_cases c6:qjA=true
  ·
   subst c6
   have H1:((Qk.f k Qa Qe Qc a1).bind fun KB=>(if KB.2.2.2=true then (some (KB.1,KB.2.1,KB.2.2.1,0)) else (some (0,0,0,4))))=some (r1,r2,r3,r4):=by rw [if_pos rfl] at H;exact H
   clear H
   have H:=H1
   clear H1
   replace H:=Option.bind_eq_some_iff.mp H
   obtain ⟨⟨qsE,qsF,qsG,qzD⟩,A70,H⟩:=H
   replace H:(if qzD=true then (some (qsE,qsF,qsG,0)) else (some (0,0,0,4)))=some (r1,r2,r3,r4):=H
   have A7:=Q1.mk A70
   clear A70
   by_cases c8:qzD=true
   ·
    subst c8
    have H1:(some (qsE,qsF,qsG,0))=some (r1,r2,r3,r4):=by rw [if_pos rfl] at H;exact H
    clear H;have H:=H1;clear H1;simp only [Option.some.injEq,Prod.mk.injEq] at H;obtain ⟨rfl,rfl,rfl,rfl⟩:=H
    go_enter Try.func33,Try.ntmps33
    go_wp2_with (first|((with_reducible refine QR (N:=2) rfl ?_);refine Yf ?hg (N:=2) ?hd (cs:=#[.slice Qy Qa.length Qr,.slice Qv Qe.length Qs,.slice Qz Qc.length Qt]) (t:=47) ?hr ?_;(case hd=>rfl);(case hg=>rfl);(case hr=>first|(go_simp;done)|(go_simp;rfl));intro Gc hg w9 hbox hb;have n0_:=Q1.mk (Qi (by repeat (first|(with_reducible first|exact HB.out|apply Q2|apply Q0|apply Q3)|exact HB.out)) hb);have n1_:=Q1.mk (hbox);have n2_:=Q1.mk ((by rw [hg];exact (Qf (by repeat (first|(with_reducible first|exact HB.out|apply Q2|apply Q0|apply Q3)|exact HB.out))):w.heap.size≤Gc));have n3_:=n2_;clear HB;have HB:=n0_;have ZJ:=n1_;have qok:=n2_;have OZ:=n3_;clear n0_ n1_ n2_ n3_ hb hbox hg;have KF:w9.cell? ⟨Gc,0,none⟩=some (.slice Qy Qa.length Qr):=(Q6 ZJ.out 0).trans rfl;have KG:w9.cell? ⟨Gc,1,none⟩=some (.slice Qv Qe.length Qs):=(Q6 ZJ.out 1).trans rfl;have O0:w9.cell? ⟨Gc,2,none⟩=some (.slice Qz Qc.length Qt):=(Q6 ZJ.out 2).trans rfl;have KH:=Q8 ZJ.out 0;have KI:=Q8 ZJ.out 1;have O6:=Q8 ZJ.out 2)|((with_reducible refine Qu (f:=31) rfl ?_);refine Yk (some 14) rfl rfl Try.func31 (by kernel_rfl) rfl #[.agg #[.slice Qy Qa.length Qr,.slice Qv Qe.length Qs,.slice Qz Qc.length Qt]] rfl (by (try simp only [List.map_toArray,List.map_cons,List.map_nil]);first|done|rfl|(simp only [List.length_drop,List.length_take];rfl)) ?_;(with_reducible refine (Qb.calls k _ _ Qa _ _ Qe _ _ Qc qaB _ ?side1 ?side2 ?side3 ?side4 ?side5 ?side6 A3.out).mono ?_);(case side1=>repeat (first|exact (Kd.C_below Z1.out HB.out)|(with_reducible refine Kd.C_alloc ?_ _)|(with_reducible refine Kd.C_drewN ?_ _)|(with_reducible refine Kd.C_drew ?_)));(case side2=>exact Zh.out);(case side3=>repeat (first|exact (Kd.C_below Z0.out HB.out)|(with_reducible refine Kd.C_alloc ?_ _)|(with_reducible refine Kd.C_drewN ?_ _)|(with_reducible refine Kd.C_drew ?_)));(case side4=>exact Z9.out);(case side5=>repeat (first|exact (Kd.C_below YV.out HB.out)|(with_reducible refine Kd.C_alloc ?_ _)|(with_reducible refine Kd.C_drewN ?_ _)|(with_reducible refine Kd.C_drew ?_)));(case side6=>exact Zd.out);rintro e w11 ⟨rfl,hb⟩;refine ⟨_,rfl,?_⟩;have n0_:=Q1.mk (Qg (g:=Gc) (by (with_reducible repeat (first|refine Q5 ?_ _|refine Q9 ?_|refine Q4 ?_ _));exact ZJ.out) hb);have n1_:=Q1.mk (Qi (by repeat (first|(with_reducible first|exact HB.out|apply Q2|apply Q0|apply Q3|refine Q7 ?_ OZ.out)|exact HB.out)) hb);clear ZJ HB;have ZJ:=n0_;have HB:=n1_;clear n0_ n1_;(try clear hb);(try clear hb2);(try clear hk);(try clear hi))|((with_reducible refine Qu (f:=34) rfl ?_);refine Yk (some 19) rfl rfl Try.func34 (by kernel_rfl) rfl #[.int .i64 a1,.int .i64 0,.int .i64 10000] rfl (by (try simp only [List.map_toArray,List.map_cons,List.map_nil]);first|done|rfl|(simp only [List.length_drop,List.length_take];rfl)) ?_;(with_reducible refine (Qq.calls a1 0 10000 true _ A5.out).mono ?_);rintro e w' ⟨rfl,⟨nd,rfl⟩⟩;refine ⟨_,rfl,?_⟩;have Gl:w11.cell? ⟨Gc,0,none⟩=some (.slice Qy Qa.length Qr):=(Q6 ZJ.out 0).trans rfl;have Gm:w11.cell? ⟨Gc,1,none⟩=some (.slice Qv Qe.length Qs):=(Q6 ZJ.out 1).trans rfl;have Gt:w11.cell? ⟨Gc,2,none⟩=some (.slice Qz Qc.length Qt):=(Q6 ZJ.out 2).trans rfl;have Gn:=Q8 ZJ.out 0;have Gp:=Q8 ZJ.out 1;have Gu:=Q8 ZJ.out 2)|((with_reducible refine Qu (f:=83) rfl ?_);refine Yk (some 24) rfl rfl Try.func83 (by kernel_rfl) rfl #[.agg #[.slice Qy Qa.length Qr,.slice Qv Qe.length Qs,.slice Qz Qc.length Qt],.int .i64 a1] rfl (by (try simp only [List.map_toArray,List.map_cons,List.map_nil]);first|done|rfl|(simp only [List.length_drop,List.length_take];rfl)) ?_;(with_reducible refine (Qk.calls k _ _ Qa _ _ Qe _ _ Qc a1 qsE qsF qsG true _ ?side1 ?side2 ?side3 ?side4 ?side5 ?side6 A7.out).mono ?_);(case side1=>repeat (first|exact (Kd.C_below Z1.out (by repeat (first|(with_reducible first|exact HB.out|apply Q2|apply Q0|apply Q3|refine Q7 ?_ OZ.out)|exact HB.out)))|(with_reducible refine Kd.C_alloc ?_ _)|(with_reducible refine Kd.C_drewN ?_ _)|(with_reducible refine Kd.C_drew ?_)));(case side2=>exact Zh.out);(case side3=>repeat (first|exact (Kd.C_below Z0.out (by repeat (first|(with_reducible first|exact HB.out|apply Q2|apply Q0|apply Q3|refine Q7 ?_ OZ.out)|exact HB.out)))|(with_reducible refine Kd.C_alloc ?_ _)|(with_reducible refine Kd.C_drewN ?_ _)|(with_reducible refine Kd.C_drew ?_)));(case side4=>exact Z9.out);(case side5=>repeat (first|exact (Kd.C_below YV.out (by repeat (first|(with_reducible first|exact HB.out|apply Q2|apply Q0|apply Q3|refine Q7 ?_ OZ.out)|exact HB.out)))|(with_reducible refine Kd.C_alloc ?_ _)|(with_reducible refine Kd.C_drewN ?_ _)|(with_reducible refine Kd.C_drew ?_)));(case side6=>exact Zd.out);rintro e w13 ⟨rfl,hb⟩;refine ⟨_,rfl,?_⟩;have n0_:=Q1.mk (Qg (g:=Gc) (by (with_reducible repeat (first|refine Q5 ?_ _|refine Q9 ?_|refine Q4 ?_ _));exact ZJ.out) hb);have n1_:=Q1.mk (Qi (by repeat (first|(with_reducible first|exact HB.out|apply Q2|apply Q0|apply Q3|refine Q7 ?_ OZ.out)|exact HB.out)) hb);clear ZJ HB;have ZJ:=n0_;have HB:=n1_;clear n0_ n1_;(try clear hb);(try clear hb2);(try clear hk);(try clear hi)))
    refine bodyPost_ret (G8 (rs:=[.tmp 4,.tmp 5,.tmp 6,.tmp 7]) rfl (by simp) (.tmp (.tmp (.tmp (.tmp .nil))))) rfl ?_
    exact ⟨by first|rfl|(simp [Qw,Qx]<;>rfl)|(simp [*,Qw,Qx]<;>rfl),by repeat (first|(with_reducible first|exact HB.out|apply Q2|apply Q0|apply Q3|refine Q7 ?_ OZ.out)|exact HB.out)⟩
   replace c8:=Bool.eq_false_iff.mpr c8
   subst c8
   have H1:(some (0,0,0,4))=some (r1,r2,r3,r4):=by rw [if_neg (show ¬ (false=true) by decide)] at H;exact H
   clear H
   have H:=H1
   clear H1
   simp only [Option.some.injEq,Prod.mk.injEq] at H
   obtain ⟨rfl,rfl,rfl,rfl⟩:=H
   go_enter Try.func33,Try.ntmps33
   go_wp2_with (first|((with_reducible refine QR (N:=2) rfl ?_);refine Yf ?hg (N:=2) ?hd (cs:=#[.slice Qy Qa.length Qr,.slice Qv Qe.length Qs,.slice Qz Qc.length Qt]) (t:=47) ?hr ?_;(case hd=>rfl);(case hg=>rfl);(case hr=>first|(go_simp;done)|(go_simp;rfl));intro Gc hg w14 hbox hb;have n0_:=Q1.mk (Qi (by repeat (first|(with_reducible first|exact HB.out|apply Q2|apply Q0|apply Q3)|exact HB.out)) hb);have n1_:=Q1.mk (hbox);have n2_:=Q1.mk ((by rw [hg];exact (Qf (by repeat (first|(with_reducible first|exact HB.out|apply Q2|apply Q0|apply Q3)|exact HB.out))):w.heap.size≤Gc));have n3_:=n2_;clear HB;have HB:=n0_;have ZJ:=n1_;have qok:=n2_;have OZ:=n3_;clear n0_ n1_ n2_ n3_ hb hbox hg;have Jq:w14.cell? ⟨Gc,0,none⟩=some (.slice Qy Qa.length Qr):=(Q6 ZJ.out 0).trans rfl;have Jr:w14.cell? ⟨Gc,1,none⟩=some (.slice Qv Qe.length Qs):=(Q6 ZJ.out 1).trans rfl;have JF:w14.cell? ⟨Gc,2,none⟩=some (.slice Qz Qc.length Qt):=(Q6 ZJ.out 2).trans rfl;have Js:=Q8 ZJ.out 0;have Jt:=Q8 ZJ.out 1;have JG:=Q8 ZJ.out 2)|((with_reducible refine Qu (f:=31) rfl ?_);refine Yk (some 14) rfl rfl Try.func31 (by kernel_rfl) rfl #[.agg #[.slice Qy Qa.length Qr,.slice Qv Qe.length Qs,.slice Qz Qc.length Qt]] rfl (by (try simp only [List.map_toArray,List.map_cons,List.map_nil]);first|done|rfl|(simp only [List.length_drop,List.length_take];rfl)) ?_;(with_reducible refine (Qb.calls k _ _ Qa _ _ Qe _ _ Qc qaB _ ?side1 ?side2 ?side3 ?side4 ?side5 ?side6 A3.out).mono ?_);(case side1=>repeat (first|exact (Kd.C_below Z1.out HB.out)|(with_reducible refine Kd.C_alloc ?_ _)|(with_reducible refine Kd.C_drewN ?_ _)|(with_reducible refine Kd.C_drew ?_)));(case side2=>exact Zh.out);(case side3=>repeat (first|exact (Kd.C_below Z0.out HB.out)|(with_reducible refine Kd.C_alloc ?_ _)|(with_reducible refine Kd.C_drewN ?_ _)|(with_reducible refine Kd.C_drew ?_)));(case side4=>exact Z9.out);(case side5=>repeat (first|exact (Kd.C_below YV.out HB.out)|(with_reducible refine Kd.C_alloc ?_ _)|(with_reducible refine Kd.C_drewN ?_ _)|(with_reducible refine Kd.C_drew ?_)));(case side6=>exact Zd.out);rintro e w16 ⟨rfl,hb⟩;refine ⟨_,rfl,?_⟩;have n0_:=Q1.mk (Qg (g:=Gc) (by (with_reducible repeat (first|refine Q5 ?_ _|refine Q9 ?_|refine Q4 ?_ _));exact ZJ.out) hb);have n1_:=Q1.mk (Qi (by repeat (first|(with_reducible first|exact HB.out|apply Q2|apply Q0|apply Q3|refine Q7 ?_ OZ.out)|exact HB.out)) hb);clear ZJ HB;have ZJ:=n0_;have HB:=n1_;clear n0_ n1_;(try clear hb);(try clear hb2);(try clear hk);(try clear hi))|((with_reducible refine Qu (f:=34) rfl ?_);refine Yk (some 19) rfl rfl Try.func34 (by kernel_rfl) rfl #[.int .i64 a1,.int .i64 0,.int .i64 10000] rfl (by (try simp only [List.map_toArray,List.map_cons,List.map_nil]);first|done|rfl|(simp only [List.length_drop,List.length_take];rfl)) ?_;(with_reducible refine (Qq.calls a1 0 10000 true _ A5.out).mono ?_);rintro e w' ⟨rfl,⟨nd,rfl⟩⟩;refine ⟨_,rfl,?_⟩;have qlE:w16.cell? ⟨Gc,0,none⟩=some (.slice Qy Qa.length Qr):=(Q6 ZJ.out 0).trans rfl;have qlF:w16.cell? ⟨Gc,1,none⟩=some (.slice Qv Qe.length Qs):=(Q6 ZJ.out 1).trans rfl;have qlG:w16.cell? ⟨Gc,2,none⟩=some (.slice Qz Qc.length Qt):=(Q6 ZJ.out 2).trans rfl;have qlZ:=Q8 ZJ.out 0;have ql0:=Q8 ZJ.out 1;have ql1:=Q8 ZJ.out 2)|((with_reducible refine Qu (f:=83) rfl ?_);refine Yk (some 24) rfl rfl Try.func83 (by kernel_rfl) rfl #[.agg #[.slice Qy Qa.length Qr,.slice Qv Qe.length Qs,.slice Qz Qc.length Qt],.int .i64 a1] rfl (by (try simp only [List.map_toArray,List.map_cons,List.map_nil]);first|done|rfl|(simp only [List.length_drop,List.length_take];rfl)) ?_;(with_reducible refine (Qk.calls k _ _ Qa _ _ Qe _ _ Qc a1 qsE qsF qsG false _ ?side1 ?side2 ?side3 ?side4 ?side5 ?side6 A7.out).mono ?_);(case side1=>repeat (first|exact (Kd.C_below Z1.out (by repeat (first|(with_reducible first|exact HB.out|apply Q2|apply Q0|apply Q3|refine Q7 ?_ OZ.out)|exact HB.out)))|(with_reducible refine Kd.C_alloc ?_ _)|(with_reducible refine Kd.C_drewN ?_ _)|(with_reducible refine Kd.C_drew ?_)));(case side2=>exact Zh.out);(case side3=>repeat (first|exact (Kd.C_below Z0.out (by repeat (first|(with_reducible first|exact HB.out|apply Q2|apply Q0|apply Q3|refine Q7 ?_ OZ.out)|exact HB.out)))|(with_reducible refine Kd.C_alloc ?_ _)|(with_reducible refine Kd.C_drewN ?_ _)|(with_reducible refine Kd.C_drew ?_)));(case side4=>exact Z9.out);(case side5=>repeat (first|exact (Kd.C_below YV.out (by repeat (first|(with_reducible first|exact HB.out|apply Q2|apply Q0|apply Q3|refine Q7 ?_ OZ.out)|exact HB.out)))|(with_reducible refine Kd.C_alloc ?_ _)|(with_reducible refine Kd.C_drewN ?_ _)|(with_reducible refine Kd.C_drew ?_)));(case side6=>exact Zd.out);rintro e w18 ⟨rfl,hb⟩;refine ⟨_,rfl,?_⟩;have n0_:=Q1.mk (Qg (g:=Gc) (by (with_reducible repeat (first|refine Q5 ?_ _|refine Q9 ?_|refine Q4 ?_ _));exact ZJ.out) hb);have n1_:=Q1.mk (Qi (by repeat (first|(with_reducible first|exact HB.out|apply Q2|apply Q0|apply Q3|refine Q7 ?_ OZ.out)|exact HB.out)) hb);clear ZJ HB;have ZJ:=n0_;have HB:=n1_;clear n0_ n1_;(try clear hb);(try clear hb2);(try clear hk);(try clear hi)))
   refine bodyPost_ret (G8 (rs:=[.tmp 4,.tmp 5,.tmp 6,.tmp 7]) rfl (by simp) (.tmp (.tmp (.tmp (.tmp .nil))))) rfl ?_
   exact ⟨by first|rfl|(simp [Qw,Qx]<;>rfl)|(simp [*,Qw,Qx]<;>rfl),by repeat (first|(with_reducible first|exact HB.out|apply Q2|apply Q0|apply Q3|refine Q7 ?_ OZ.out)|exact HB.out)⟩
  replace c6:=Bool.eq_false_iff.mpr c6
  subst c6
  have H1:(some (0,0,0,7))=some (r1,r2,r3,r4):=by rw [if_neg (show ¬ (false=true) by decide)] at H;exact H
  clear H
  have H:=H1
  clear H1
  simp only [Option.some.injEq,Prod.mk.injEq] at H
  obtain ⟨rfl,rfl,rfl,rfl⟩:=H
  go_enter Try.func33,Try.ntmps33
  go_wp2_with (first|((with_reducible refine QR (N:=2) rfl ?_);refine Yf ?hg (N:=2) ?hd (cs:=#[.slice Qy Qa.length Qr,.slice Qv Qe.length Qs,.slice Qz Qc.length Qt]) (t:=47) ?hr ?_;(case hd=>rfl);(case hg=>rfl);(case hr=>first|(go_simp;done)|(go_simp;rfl));intro Gc hg w19 hbox hb;have n0_:=Q1.mk (Qi (by repeat (first|(with_reducible first|exact HB.out|apply Q2|apply Q0|apply Q3)|exact HB.out)) hb);have n1_:=Q1.mk (hbox);have n2_:=Q1.mk ((by rw [hg];exact (Qf (by repeat (first|(with_reducible first|exact HB.out|apply Q2|apply Q0|apply Q3)|exact HB.out))):w.heap.size≤Gc));have n3_:=n2_;clear HB;have HB:=n0_;have ZJ:=n1_;have qok:=n2_;have OZ:=n3_;clear n0_ n1_ n2_ n3_ hb hbox hg;have qaL:w19.cell? ⟨Gc,0,none⟩=some (.slice Qy Qa.length Qr):=(Q6 ZJ.out 0).trans rfl;have qaM:w19.cell? ⟨Gc,1,none⟩=some (.slice Qv Qe.length Qs):=(Q6 ZJ.out 1).trans rfl;have qaN:w19.cell? ⟨Gc,2,none⟩=some (.slice Qz Qc.length Qt):=(Q6 ZJ.out 2).trans rfl;have qaR:=Q8 ZJ.out 0;have qaS:=Q8 ZJ.out 1;have qaT:=Q8 ZJ.out 2)|((with_reducible refine Qu (f:=31) rfl ?_);refine Yk (some 14) rfl rfl Try.func31 (by kernel_rfl) rfl #[.agg #[.slice Qy Qa.length Qr,.slice Qv Qe.length Qs,.slice Qz Qc.length Qt]] rfl (by (try simp only [List.map_toArray,List.map_cons,List.map_nil]);first|done|rfl|(simp only [List.length_drop,List.length_take];rfl)) ?_;(with_reducible refine (Qb.calls k _ _ Qa _ _ Qe _ _ Qc qaB _ ?side1 ?side2 ?side3 ?side4 ?side5 ?side6 A3.out).mono ?_);(case side1=>repeat (first|exact (Kd.C_below Z1.out HB.out)|(with_reducible refine Kd.C_alloc ?_ _)|(with_reducible refine Kd.C_drewN ?_ _)|(with_reducible refine Kd.C_drew ?_)));(case side2=>exact Zh.out);(case side3=>repeat (first|exact (Kd.C_below Z0.out HB.out)|(with_reducible refine Kd.C_alloc ?_ _)|(with_reducible refine Kd.C_drewN ?_ _)|(with_reducible refine Kd.C_drew ?_)));(case side4=>exact Z9.out);(case side5=>repeat (first|exact (Kd.C_below YV.out HB.out)|(with_reducible refine Kd.C_alloc ?_ _)|(with_reducible refine Kd.C_drewN ?_ _)|(with_reducible refine Kd.C_drew ?_)));(case side6=>exact Zd.out);rintro e w21 ⟨rfl,hb⟩;refine ⟨_,rfl,?_⟩;have n0_:=Q1.mk (Qg (g:=Gc) (by (with_reducible repeat (first|refine Q5 ?_ _|refine Q9 ?_|refine Q4 ?_ _));exact ZJ.out) hb);have n1_:=Q1.mk (Qi (by repeat (first|(with_reducible first|exact HB.out|apply Q2|apply Q0|apply Q3|refine Q7 ?_ OZ.out)|exact HB.out)) hb);clear ZJ HB;have ZJ:=n0_;have HB:=n1_;clear n0_ n1_;(try clear hb);(try clear hb2);(try clear hk);(try clear hi))|((with_reducible refine Qu (f:=34) rfl ?_);refine Yk (some 19) rfl rfl Try.func34 (by kernel_rfl) rfl #[.int .i64 a1,.int .i64 0,.int .i64 10000] rfl (by (try simp only [List.map_toArray,List.map_cons,List.map_nil]);first|done|rfl|(simp only [List.length_drop,List.length_take];rfl)) ?_;(with_reducible refine (Qq.calls a1 0 10000 false _ A5.out).mono ?_);rintro e w' ⟨rfl,⟨nd,rfl⟩⟩;refine ⟨_,rfl,?_⟩))
  refine bodyPost_ret (G8 (rs:=[.tmp 4,.tmp 5,.tmp 6,.tmp 7]) rfl (by simp) (.tmp (.tmp (.tmp (.tmp .nil))))) rfl ?_
  exact ⟨by first|rfl|(simp [Qw,Qx]<;>rfl)|(simp [*,Qw,Qx]<;>rfl),by repeat (first|(with_reducible first|exact HB.out|apply Q2|apply Q0|apply Q3|refine Q7 ?_ OZ.out)|exact HB.out)⟩
 rw [if_neg c4] at H
 have c4b0:(qaB==0)=false:=beq_eq_false_iff_ne.mpr c4
 have c4b1:(qaB != 0)=true:=bne_iff_ne.mpr c4
 simp only [Option.some.injEq,Prod.mk.injEq] at H
 obtain ⟨rfl,rfl,rfl,rfl⟩:=H
 go_enter Try.func33,Try.ntmps33
 go_wp2_with (first|((with_reducible refine QR (N:=2) rfl ?_);refine Yf ?hg (N:=2) ?hd (cs:=#[.slice Qy Qa.length Qr,.slice Qv Qe.length Qs,.slice Qz Qc.length Qt]) (t:=47) ?hr ?_;(case hd=>rfl);(case hg=>rfl);(case hr=>first|(go_simp;done)|(go_simp;rfl));intro Gc hg w22 hbox hb;have n0_:=Q1.mk (Qi (by repeat (first|(with_reducible first|exact HB.out|apply Q2|apply Q0|apply Q3)|exact HB.out)) hb);have n1_:=Q1.mk (hbox);have n2_:=Q1.mk ((by rw [hg];exact (Qf (by repeat (first|(with_reducible first|exact HB.out|apply Q2|apply Q0|apply Q3)|exact HB.out))):w.heap.size≤Gc));have n3_:=n2_;clear HB;have HB:=n0_;have ZJ:=n1_;have qok:=n2_;have OZ:=n3_;clear n0_ n1_ n2_ n3_ hb hbox hg;have qaO:w22.cell? ⟨Gc,0,none⟩=some (.slice Qy Qa.length Qr):=(Q6 ZJ.out 0).trans rfl;have qaP:w22.cell? ⟨Gc,1,none⟩=some (.slice Qv Qe.length Qs):=(Q6 ZJ.out 1).trans rfl;have qaQ:w22.cell? ⟨Gc,2,none⟩=some (.slice Qz Qc.length Qt):=(Q6 ZJ.out 2).trans rfl;have qaU:=Q8 ZJ.out 0;have qaV:=Q8 ZJ.out 1;have qaW:=Q8 ZJ.out 2)|((with_reducible refine Qu (f:=31) rfl ?_);refine Yk (some 14) rfl rfl Try.func31 (by kernel_rfl) rfl #[.agg #[.slice Qy Qa.length Qr,.slice Qv Qe.length Qs,.slice Qz Qc.length Qt]] rfl (by (try simp only [List.map_toArray,List.map_cons,List.map_nil]);first|done|rfl|(simp only [List.length_drop,List.length_take];rfl)) ?_;(with_reducible refine (Qb.calls k _ _ Qa _ _ Qe _ _ Qc qaB _ ?side1 ?side2 ?side3 ?side4 ?side5 ?side6 A3.out).mono ?_);(case side1=>repeat (first|exact (Kd.C_below Z1.out HB.out)|(with_reducible refine Kd.C_alloc ?_ _)|(with_reducible refine Kd.C_drewN ?_ _)|(with_reducible refine Kd.C_drew ?_)));(case side2=>exact Zh.out);(case side3=>repeat (first|exact (Kd.C_below Z0.out HB.out)|(with_reducible refine Kd.C_alloc ?_ _)|(with_reducible refine Kd.C_drewN ?_ _)|(with_reducible refine Kd.C_drew ?_)));(case side4=>exact Z9.out);(case side5=>repeat (first|exact (Kd.C_below YV.out HB.out)|(with_reducible refine Kd.C_alloc ?_ _)|(with_reducible refine Kd.C_drewN ?_ _)|(with_reducible refine Kd.C_drew ?_)));(case side6=>exact Zd.out);rintro e w24 ⟨rfl,hb⟩;refine ⟨_,rfl,?_⟩;have n0_:=Q1.mk (Qg (g:=Gc) (by (with_reducible repeat (first|refine Q5 ?_ _|refine Q9 ?_|refine Q4 ?_ _));exact ZJ.out) hb);have n1_:=Q1.mk (Qi (by repeat (first|(with_reducible first|exact HB.out|apply Q2|apply Q0|apply Q3|refine Q7 ?_ OZ.out)|exact HB.out)) hb);clear ZJ HB;have ZJ:=n0_;have HB:=n1_;clear n0_ n1_;(try clear hb);(try clear hb2);(try clear hk);(try clear hi)))
 refine bodyPost_ret (G8 (rs:=[.tmp 4,.tmp 5,.tmp 6,.tmp 7]) rfl (by simp) (.tmp (.tmp (.tmp (.tmp .nil))))) rfl ?_
 exact ⟨by first|rfl|(simp [Qw,Qx]<;>rfl)|(simp [*,Qw,Qx]<;>rfl),by repeat (first|(with_reducible first|exact HB.out|apply Q2|apply Q0|apply Q3|refine Q7 ?_ OZ.out)|exact HB.out)⟩
end
end Go.Proofs.Ytmhomdohhihlcaa.P
