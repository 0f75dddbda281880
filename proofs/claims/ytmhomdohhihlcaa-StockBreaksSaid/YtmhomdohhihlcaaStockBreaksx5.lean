/- What the statement StockBreaks leans on, part 6 of 6: contracts of the program's functions; conditions: none. -/
import Derived.Deep.Slices
import Derived.ChangeSame
import Derived.OpenShut
import Derived.SizedLaws
import Derived.Lib.SmallJoins
import Derived.Test.YtmhomdohhihlcaaStockBreaksx0
import Derived.Test.YtmhomdohhihlcaaStockBreaksx1
import Derived.Test.YtmhomdohhihlcaaStockBreaksx2
import Derived.Test.YtmhomdohhihlcaaStockBreaksx3
import Derived.Test.YtmhomdohhihlcaaStockBreaksx4
set_option linter.unusedVariables false
set_option linter.unusedSimpArgs false
set_option linter.constructorNameAsVariable false
set_option linter.unusedSectionVars false
namespace Go.Proofs.Ytmhomdohhihlcaa.P
open Go.RowKit Go.Proofs.YtmhomdohhihlcaaW.PrintWords Go.Proofs.YtmhomdohhihlcaaW.PrintLast Go.Proofs.YtmhomdohhihlcaaW.PrintMore
section
attribute [local go_sem] Yv Yx YJ YK Yl Ym Yw Yy
mutual
def Qc.j0:Nat→Int→Int→Int→Int→Int→Bool→List (S39)→List Int→List (List (List Int))→Int→Int→Option (Bool)
 | 0,_,_,_,_,_,_,_,_,_,_,_=>none
 | k+1,x1,x7,x8,x9,x10,x40,Zt,JA,ZI,qrH,qrI=>if x40=true then (if x10=93 then (if x7=0 then (if x8=0 then (if x9=0 then ((Z2.f).bind fun qeF=>(some qeF)) else (some false)) else (some false)) else (some false)) else (some false)) else ((QX.f qrH (Zt.length:Int)).bind fun YA=>((QX.f qrI (ZI.length:Int)).bind fun ZZ=>((Qt.f k Zt JA ZI YA ZZ x1 ([]:List Int)).bind fun GG=>(if 0<(ZI.length:Int) then (if 0<((Qs ZI 0).length:Int) then (if GG.2=0 then (Qc.j1 k x1 x7 x8 x9 x10 YA ZZ GG.1 ((QC (Qs ZI 0) 0).length:Int) ((GG.1.length:Int) != ((QC (Qs ZI 0) 0).length:Int)) Zt JA ZI) else (Qc.j1 k x1 x7 x8 x9 x10 YA ZZ GG.1 ((QC (Qs ZI 0) 0).length:Int) true Zt JA ZI)) else (none)) else (none)))))
def Qc.j1:Nat→Int→Int→Int→Int→Int→Int→Int→List Int→Int→Bool→List (S39)→List Int→List (List (List Int))→Option (Bool)
 | 0,_,_,_,_,_,_,_,_,_,_,_,_,_=>none
 | k+1,x1,x7,x8,x9,x10,x11,x12,x13,x15,x92,Zt,JA,ZI=>if x92=true then (some false) else (if x10=4 then (Qc.j3 k x7 x8 x15 x11 x12 x13 x15 Zt JA ZI) else ((Qn.f x7 0 (wrap64 ((Zt.length:Int)-1))).bind fun qht=>(if qht=true then ((Qn.f x8 0 (wrap64 ((ZI.length:Int)-1))).bind fun qci=>(if qci=true then ((Qn.f x9 0 (wrap64 (x15-1))).bind fun qec=>(Qc.j2 k x1 x7 x8 x9 x11 x12 x13 x15 (!qec) Zt JA ZI)) else (Qc.j2 k x1 x7 x8 x9 x11 x12 x13 x15 true Zt JA ZI))) else (Qc.j2 k x1 x7 x8 x9 x11 x12 x13 x15 true Zt JA ZI))))
def Qc.j3:Nat→Int→Int→Int→Int→Int→List Int→Int→List (S39)→List Int→List (List (List Int))→Option (Bool)
 | 0,_,_,_,_,_,_,_,_,_,_=>none
 | k+1,x7,x8,x9,x11,x12,x13,x15,Zt,JA,ZI=>Qc.l0 k x7 x8 x9 x11 x12 x13 x15 0 Zt JA ZI
def Qc.l0:Nat→Int→Int→Int→Int→Int→List Int→Int→Int→List (S39)→List Int→List (List (List Int))→Option (Bool)
 | 0,_,_,_,_,_,_,_,_,_,_,_=>none
 | k+1,x7,x8,x9,x11,x12,x13,x15,x18,Zt,JA,ZI=>if x18<x15 then (Qc.j5 k x7 x8 x9 x11 x12 x13 x15 x18 (decide (x18≤x9)) Zt JA ZI) else (Qc.j5 k x7 x8 x9 x11 x12 x13 x15 x18 false Zt JA ZI)
def Qc.j5:Nat→Int→Int→Int→Int→Int→List Int→Int→Int→Bool→List (S39)→List Int→List (List (List Int))→Option (Bool)
 | 0,_,_,_,_,_,_,_,_,_,_,_,_=>none
 | k+1,x7,x8,x9,x11,x12,x13,x15,x18,qIi,Zt,JA,ZI=>if qIi=true then (if x18<x9 then (if 0≤x18 then (if x18<(x13.length:Int) then (if 0≤x11 then (if x11<(Zt.length:Int) then (if (rd x13 x18)<((Qe Zt x11).f3) then (some false) else (Qc.l0 k x7 x8 x9 x11 x12 x13 x15 (wrap64 (x18+1)) Zt JA ZI)) else (none)) else (none)) else (none)) else (none)) else (if x11<x7 then (if 0≤x18 then (if x18<(x13.length:Int) then (if 0≤x11 then (if x11<(Zt.length:Int) then (if (rd x13 x18)<((Qe Zt x11).f3) then (some false) else (Qc.l0 k x7 x8 x9 x11 x12 x13 x15 (wrap64 (x18+1)) Zt JA ZI)) else (none)) else (none)) else (none)) else (none)) else (if x11=x7 then (if x12<x8 then (if 0≤x18 then (if x18<(x13.length:Int) then (if 0≤x11 then (if x11<(Zt.length:Int) then (if (rd x13 x18)<((Qe Zt x11).f3) then (some false) else (Qc.l0 k x7 x8 x9 x11 x12 x13 x15 (wrap64 (x18+1)) Zt JA ZI)) else (none)) else (none)) else (none)) else (none)) else (Qc.l0 k x7 x8 x9 x11 x12 x13 x15 (wrap64 (x18+1)) Zt JA ZI)) else (Qc.l0 k x7 x8 x9 x11 x12 x13 x15 (wrap64 (x18+1)) Zt JA ZI)))) else ((Z2.f).bind fun qeG=>(some qeG))
def Qc.j2:Nat→Int→Int→Int→Int→Int→Int→List Int→Int→Bool→List (S39)→List Int→List (List (List Int))→Option (Bool)
 | 0,_,_,_,_,_,_,_,_,_,_,_,_=>none
 | k+1,x1,x7,x8,x9,x11,x12,x13,x15,qIh,Zt,JA,ZI=>if qIh=true then (some false) else ((Qt.f k Zt JA ZI x7 x8 x1 ([]:List Int)).bind fun OP=>(if OP.2=0 then (if (OP.1.length:Int)=x15 then (if 0≤x9 then (if x9<(OP.1.length:Int) then (if 0≤x7 then (if x7<(Zt.length:Int) then (if (rd OP.1 x9)≥((Qe Zt x7).f3) then (some false) else (Qc.j3 k x7 x8 x9 x11 x12 x13 x15 Zt JA ZI)) else (none)) else (none)) else (none)) else (none)) else (some false)) else (some false)))
end
def Qc.f (k:Nat) (Qa:List (S39)) (Qf:List Int) (Qb:List (List (List Int))) (a1:Int) (Jb:Int) (J8:Int):Option (Bool):=(QX.f a1 10001).bind fun Zf=>((Yf.f k Qa Qf Qb Zf).bind fun ZG=>(if ZG.2.2.2=0 then ((Qd.f k Qa Qf Qb).bind fun qgH=>(Qc.j0 k Zf ZG.1 ZG.2.1 ZG.2.2.1 ZG.2.2.2 (!qgH) Qa Qf Qb Jb J8)) else (if ZG.2.2.2=4 then ((Qd.f k Qa Qf Qb).bind fun qeE=>(Qc.j0 k Zf ZG.1 ZG.2.1 ZG.2.2.1 ZG.2.2.2 (!qeE) Qa Qf Qb Jb J8)) else (Qc.j0 k Zf ZG.1 ZG.2.1 ZG.2.2.1 ZG.2.2.2 true Qa Qf Qb Jb J8))))
set_option maxHeartbeats 8000000 in
set_option maxRecDepth 100000 in
theorem Qc.calls (k:Nat) (QD:Option Addr) (Qu:Nat) (Qa:List (S39)) (QB:Option Addr) (Qv:Nat) (Qf:List Int) (QK:Option Addr) (Qw:Nat) (Qb:List (List (List Int))) (a1:Int) (Jb:Int) (J8:Int) (r:Bool) (w:World) (Gk:Kd.C k39 w QD Qa.length Qa) (Gy:Qa.length≤Qu) (Gl:Kd.C (Kd.int .i64) w QB Qf.length Qf) (Gz:Qf.length≤Qv) (Gm:Kd.C (Kd.slice 37 (Kd.slice 3 (Kd.int .i64))) w QK Qb.length Qb) (GA:Qb.length≤Qw) (h:Qc.f k Qa Qf Qb a1 Jb J8=some r) :
  Calls Try.prog 15 #[.agg #[.slice QD Qa.length Qu,.slice QB Qf.length Qv,.slice QK Qb.length Qw],.int .i64 a1,.agg #[.int .i64 Jb,.int .i64 J8]] w fun e w'=>e = .returned (.bool r)∧Below w.heap.size w w':=by
 have qoO:=Try.underlying47
 have qLq:=Try.underlying23
 have YV:=Q0.mk Gk
 have ZA:=Q0.mk Gy
 clear Gk Gy
 have Zj:=Q0.mk Gl
 have ZB:=Q0.mk Gz
 clear Gl Gz
 have Z5:=Q0.mk Gm
 have ZC:=Q0.mk GA
 clear Gm GA
 have HB:=Q0.mk (Below.refl w.heap.size w)
 have H:((QX.f a1 10001).bind fun Zf=>((Yf.f k Qa Qf Qb Zf).bind fun ZG=>(if ZG.2.2.2=0 then ((Qd.f k Qa Qf Qb).bind fun qgH=>(Qc.j0 k Zf ZG.1 ZG.2.1 ZG.2.2.1 ZG.2.2.2 (!qgH) Qa Qf Qb Jb J8)) else (if ZG.2.2.2=4 then ((Qd.f k Qa Qf Qb).bind fun qeE=>(Qc.j0 k Zf ZG.1 ZG.2.1 ZG.2.2.1 ZG.2.2.2 (!qeE) Qa Qf Qb Jb J8)) else (Qc.j0 k Zf ZG.1 ZG.2.1 ZG.2.2.1 ZG.2.2.2 true Qa Qf Qb Jb J8)))))=some r:=h
 clear h
 replace H:=Option.bind_eq_some_iff.mp H
 obtain ⟨Zf,A40,H⟩:=H
 replace H:((Yf.f k Qa Qf Qb Zf).bind fun ZG=>(if ZG.2.2.2=0 then ((Qd.f k Qa Qf Qb).bind fun qgH=>(Qc.j0 k Zf ZG.1 ZG.2.1 ZG.2.2.1 ZG.2.2.2 (!qgH) Qa Qf Qb Jb J8)) else (if ZG.2.2.2=4 then ((Qd.f k Qa Qf Qb).bind fun qeE=>(Qc.j0 k Zf ZG.1 ZG.2.1 ZG.2.2.1 ZG.2.2.2 (!qeE) Qa Qf Qb Jb J8)) else (Qc.j0 k Zf ZG.1 ZG.2.1 ZG.2.2.1 ZG.2.2.2 true Qa Qf Qb Jb J8))))=some r:=H
 have A4:=Q0.mk A40
 clear A40
 replace H:=Option.bind_eq_some_iff.mp H
 obtain ⟨⟨Yt,Z6,Z0,JH⟩,A50,H⟩:=H
 replace H:(if JH=0 then ((Qd.f k Qa Qf Qb).bind fun qgH=>(Qc.j0 k Zf Yt Z6 Z0 JH (!qgH) Qa Qf Qb Jb J8)) else (if JH=4 then ((Qd.f k Qa Qf Qb).bind fun qeE=>(Qc.j0 k Zf Yt Z6 Z0 JH (!qeE) Qa Qf Qb Jb J8)) else (Qc.j0 k Zf Yt Z6 Z0 JH true Qa Qf Qb Jb J8)))=some r:=H
 have A5:=Q0.mk A50
 clear A50
 have HC6:=Q0.mk H
 clear H
 go_enter Try.func15,Try.ntmps15
 go_upto_region 3 with (first|((with_reducible refine QZ (N:=3) rfl ?_);(try (refine JI (by rfl) ?_;dsimp only));refine Yr ?hg (N:=3) ?hd (cs:=#[.slice QD Qa.length Qu,.slice QB Qf.length Qv,.slice QK Qb.length Qw]) (t:=47) ?hr ?_;(case hd=>rfl);(case hg=>rfl);(case hr=>first|(go_simp;done)|(go_simp;rfl));intro QE hg w7 hbox hb;have n0_:=Q0.mk (Qk (by repeat (first|(with_reducible first|exact HB.out|apply Q3|apply Q1|apply Q6)|exact HB.out)) hb);have n1_:=Q0.mk (hbox);have n2_:=Q0.mk ((by rw [hg];exact (Qh (by repeat (first|(with_reducible first|exact HB.out|apply Q3|apply Q1|apply Q6)|exact HB.out))):w.heap.size≤QE));have n3_:=n2_;clear HB;have HB:=n0_;have Ql:=n1_;have qpx:=n2_;have Yc:=n3_;clear n0_ n1_ n2_ n3_ hb hbox hg)|((with_reducible refine QZ (N:=5) rfl ?_);(try (refine JI (by rfl) ?_;dsimp only));refine Yr ?hg (N:=5) ?hd (cs:=#[.int .i64 Jb,.int .i64 J8]) (t:=23) ?hr ?_;(case hd=>rfl);(case hg=>rfl);(case hr=>first|(go_simp;done)|(go_simp;rfl));intro Yq hg w8 hbox hb;have n0_:=Q0.mk (Qg (g:=QE) (by (with_reducible repeat (first|refine Q4 ?_ _|refine Q7 ?_|refine Q2 ?_ _));exact Ql.out) hb);have n1_:=Q0.mk (Qk (by repeat (first|(with_reducible first|exact HB.out|apply Q3|apply Q1|apply Q6|refine Q5 ?_ Yc.out)|exact HB.out)) hb);have n2_:=Q0.mk (hbox);have n3_:=Q0.mk ((by rw [hg];exact (Qh (by repeat (first|(with_reducible first|exact HB.out|apply Q3|apply Q1|apply Q6|refine Q5 ?_ Yc.out)|exact HB.out))):w.heap.size≤Yq));have n4_:=n3_;have n5_:=Q0.mk ((by rw [hg];exact Nat.ne_of_lt (QT (g:=QE) (by (with_reducible repeat (first|refine Q4 ?_ _|refine Q7 ?_|refine Q2 ?_ _));exact Ql.out)):QE≠Yq));have n6_:=Q0.mk (n5_.out.symm);clear Ql HB;have Ql:=n0_;have HB:=n1_;have QP:=n2_;have qpy:=n3_;have Yk:=n4_;have Zr:=n5_;have Zs:=n6_;clear n0_ n1_ n2_ n3_ n4_ n5_ n6_ hb hbox hg)|(go_at_call 36;(with_reducible refine (QX.calls a1 10001 Zf _ A4.out).mono ?_);rintro e w' ⟨rfl,⟨nd,rfl⟩⟩;(try first|exact ⟨rfl,_,World.drewN_drewN _ _ _⟩|exact ⟨rfl,_,Eq.trans (World.drewN_drewN _ _ _) (congrArg (World.drewN _) (Nat.add_assoc _ _ _))⟩);have qAy:=Zr.out;have qAS:=Zs.out;have ZS:w8.cell? ⟨QE,0,none⟩=some (.slice QD Qa.length Qu):=(Q9 Ql.out 0).trans rfl;have ZT:w8.cell? ⟨QE,1,none⟩=some (.slice QB Qf.length Qv):=(Q9 Ql.out 1).trans rfl;have ZX:w8.cell? ⟨QE,2,none⟩=some (.slice QK Qb.length Qw):=(Q9 Ql.out 2).trans rfl;have ZU:=Q8 Ql.out 0;have ZV:=Q8 Ql.out 1;have ZY:=Q8 Ql.out 2)|(go_at_call 32;(with_reducible refine (Yf.calls k _ _ Qa _ _ Qf _ _ Qb Zf Yt Z6 Z0 JH _ ?side1 ?side2 ?side3 ?side4 ?side5 ?side6 A5.out).mono ?_);(case side1=>repeat (first|exact (Kd.C_below YV.out (by repeat (first|(with_reducible first|exact HB.out|apply Q3|apply Q1|apply Q6|refine Q5 ?_ Yc.out|refine Q5 ?_ Yk.out)|exact HB.out)))|(with_reducible refine Kd.C_alloc ?_ _)|(with_reducible refine Kd.C_drewN ?_ _)|(with_reducible refine Kd.C_drew ?_)));(case side2=>exact ZA.out);(case side3=>repeat (first|exact (Kd.C_below Zj.out (by repeat (first|(with_reducible first|exact HB.out|apply Q3|apply Q1|apply Q6|refine Q5 ?_ Yc.out|refine Q5 ?_ Yk.out)|exact HB.out)))|(with_reducible refine Kd.C_alloc ?_ _)|(with_reducible refine Kd.C_drewN ?_ _)|(with_reducible refine Kd.C_drew ?_)));(case side4=>exact ZB.out);(case side5=>repeat (first|exact (Kd.C_below Z5.out (by repeat (first|(with_reducible first|exact HB.out|apply Q3|apply Q1|apply Q6|refine Q5 ?_ Yc.out|refine Q5 ?_ Yk.out)|exact HB.out)))|(with_reducible refine Kd.C_alloc ?_ _)|(with_reducible refine Kd.C_drewN ?_ _)|(with_reducible refine Kd.C_drew ?_)));(case side6=>exact ZC.out);rintro e w11 ⟨rfl,hb⟩;have n0_:=Q0.mk (Qg (g:=QE) (by (with_reducible repeat (first|refine Q4 ?_ _|refine Q7 ?_|refine Q2 ?_ _));exact Ql.out) hb);have n1_:=Q0.mk (Qg (g:=Yq) (by (with_reducible repeat (first|refine Q4 ?_ _|refine Q7 ?_|refine Q2 ?_ _));exact QP.out) hb);have n2_:=Q0.mk (Qk (by repeat (first|(with_reducible first|exact HB.out|apply Q3|apply Q1|apply Q6|refine Q5 ?_ Yc.out|refine Q5 ?_ Yk.out)|exact HB.out)) hb);clear Ql QP HB;have Ql:=n0_;have QP:=n1_;have HB:=n2_;clear n0_ n1_ n2_;(try clear hb);(try clear hb2);(try clear hk);(try clear hi)))
 repeat (go_quiet (first|((with_reducible refine QZ (N:=3) rfl ?_);(try (refine JI (by rfl) ?_;dsimp only));refine Yr ?hg (N:=3) ?hd (cs:=#[.slice QD Qa.length Qu,.slice QB Qf.length Qv,.slice QK Qb.length Qw]) (t:=47) ?hr ?_;(case hd=>rfl);(case hg=>rfl);(case hr=>first|(go_simp;done)|(go_simp;rfl));intro QE hg w7 hbox hb;have n0_:=Q0.mk (Qk (by repeat (first|(with_reducible first|exact HB.out|apply Q3|apply Q1|apply Q6)|exact HB.out)) hb);have n1_:=Q0.mk (hbox);have n2_:=Q0.mk ((by rw [hg];exact (Qh (by repeat (first|(with_reducible first|exact HB.out|apply Q3|apply Q1|apply Q6)|exact HB.out))):w.heap.size≤QE));have n3_:=n2_;clear HB;have HB:=n0_;have Ql:=n1_;have qpx:=n2_;have Yc:=n3_;clear n0_ n1_ n2_ n3_ hb hbox hg)|((with_reducible refine QZ (N:=5) rfl ?_);(try (refine JI (by rfl) ?_;dsimp only));refine Yr ?hg (N:=5) ?hd (cs:=#[.int .i64 Jb,.int .i64 J8]) (t:=23) ?hr ?_;(case hd=>rfl);(case hg=>rfl);(case hr=>first|(go_simp;done)|(go_simp;rfl));intro Yq hg w8 hbox hb;have n0_:=Q0.mk (Qg (g:=QE) (by (with_reducible repeat (first|refine Q4 ?_ _|refine Q7 ?_|refine Q2 ?_ _));exact Ql.out) hb);have n1_:=Q0.mk (Qk (by repeat (first|(with_reducible first|exact HB.out|apply Q3|apply Q1|apply Q6|refine Q5 ?_ Yc.out)|exact HB.out)) hb);have n2_:=Q0.mk (hbox);have n3_:=Q0.mk ((by rw [hg];exact (Qh (by repeat (first|(with_reducible first|exact HB.out|apply Q3|apply Q1|apply Q6|refine Q5 ?_ Yc.out)|exact HB.out))):w.heap.size≤Yq));have n4_:=n3_;have n5_:=Q0.mk ((by rw [hg];exact Nat.ne_of_lt (QT (g:=QE) (by (with_reducible repeat (first|refine Q4 ?_ _|refine Q7 ?_|refine Q2 ?_ _));exact Ql.out)):QE≠Yq));have n6_:=Q0.mk (n5_.out.symm);clear Ql HB;have Ql:=n0_;have HB:=n1_;have QP:=n2_;have qpy:=n3_;have Yk:=n4_;have Zr:=n5_;have Zs:=n6_;clear n0_ n1_ n2_ n3_ n4_ n5_ n6_ hb hbox hg)|(go_at_call 36;(with_reducible refine (QX.calls a1 10001 Zf _ A4.out).mono ?_);rintro e w' ⟨rfl,⟨nd,rfl⟩⟩;(try first|exact ⟨rfl,_,World.drewN_drewN _ _ _⟩|exact ⟨rfl,_,Eq.trans (World.drewN_drewN _ _ _) (congrArg (World.drewN _) (Nat.add_assoc _ _ _))⟩);have qAy:=Zr.out;have qAS:=Zs.out;have ZS:w8.cell? ⟨QE,0,none⟩=some (.slice QD Qa.length Qu):=(Q9 Ql.out 0).trans rfl;have ZT:w8.cell? ⟨QE,1,none⟩=some (.slice QB Qf.length Qv):=(Q9 Ql.out 1).trans rfl;have ZX:w8.cell? ⟨QE,2,none⟩=some (.slice QK Qb.length Qw):=(Q9 Ql.out 2).trans rfl;have ZU:=Q8 Ql.out 0;have ZV:=Q8 Ql.out 1;have ZY:=Q8 Ql.out 2)|(go_at_call 32;(with_reducible refine (Yf.calls k _ _ Qa _ _ Qf _ _ Qb Zf Yt Z6 Z0 JH _ ?side1 ?side2 ?side3 ?side4 ?side5 ?side6 A5.out).mono ?_);(case side1=>repeat (first|exact (Kd.C_below YV.out (by repeat (first|(with_reducible first|exact HB.out|apply Q3|apply Q1|apply Q6|refine Q5 ?_ Yc.out|refine Q5 ?_ Yk.out)|exact HB.out)))|(with_reducible refine Kd.C_alloc ?_ _)|(with_reducible refine Kd.C_drewN ?_ _)|(with_reducible refine Kd.C_drew ?_)));(case side2=>exact ZA.out);(case side3=>repeat (first|exact (Kd.C_below Zj.out (by repeat (first|(with_reducible first|exact HB.out|apply Q3|apply Q1|apply Q6|refine Q5 ?_ Yc.out|refine Q5 ?_ Yk.out)|exact HB.out)))|(with_reducible refine Kd.C_alloc ?_ _)|(with_reducible refine Kd.C_drewN ?_ _)|(with_reducible refine Kd.C_drew ?_)));(case side4=>exact ZB.out);(case side5=>repeat (first|exact (Kd.C_below Z5.out (by repeat (first|(with_reducible first|exact HB.out|apply Q3|apply Q1|apply Q6|refine Q5 ?_ Yc.out|refine Q5 ?_ Yk.out)|exact HB.out)))|(with_reducible refine Kd.C_alloc ?_ _)|(with_reducible refine Kd.C_drewN ?_ _)|(with_reducible refine Kd.C_drew ?_)));(case side6=>exact ZC.out);rintro e w11 ⟨rfl,hb⟩;have n0_:=Q0.mk (Qg (g:=QE) (by (with_reducible repeat (first|refine Q4 ?_ _|refine Q7 ?_|refine Q2 ?_ _));exact Ql.out) hb);have n1_:=Q0.mk (Qg (g:=Yq) (by (with_reducible repeat (first|refine Q4 ?_ _|refine Q7 ?_|refine Q2 ?_ _));exact QP.out) hb);have n2_:=Q0.mk (Qk (by repeat (first|(with_reducible first|exact HB.out|apply Q3|apply Q1|apply Q6|refine Q5 ?_ Yc.out|refine Q5 ?_ Yk.out)|exact HB.out)) hb);clear Ql QP HB;have Ql:=n0_;have QP:=n1_;have HB:=n2_;clear n0_ n1_ n2_;(try clear hb);(try clear hb2);(try clear hk);(try clear hi)));go_upto_region 3 with (first|((with_reducible refine QZ (N:=3) rfl ?_);(try (refine JI (by rfl) ?_;dsimp only));refine Yr ?hg (N:=3) ?hd (cs:=#[.slice QD Qa.length Qu,.slice QB Qf.length Qv,.slice QK Qb.length Qw]) (t:=47) ?hr ?_;(case hd=>rfl);(case hg=>rfl);(case hr=>first|(go_simp;done)|(go_simp;rfl));intro QE hg w7 hbox hb;have n0_:=Q0.mk (Qk (by repeat (first|(with_reducible first|exact HB.out|apply Q3|apply Q1|apply Q6)|exact HB.out)) hb);have n1_:=Q0.mk (hbox);have n2_:=Q0.mk ((by rw [hg];exact (Qh (by repeat (first|(with_reducible first|exact HB.out|apply Q3|apply Q1|apply Q6)|exact HB.out))):w.heap.size≤QE));have n3_:=n2_;clear HB;have HB:=n0_;have Ql:=n1_;have qpx:=n2_;have Yc:=n3_;clear n0_ n1_ n2_ n3_ hb hbox hg)|((with_reducible refine QZ (N:=5) rfl ?_);(try (refine JI (by rfl) ?_;dsimp only));refine Yr ?hg (N:=5) ?hd (cs:=#[.int .i64 Jb,.int .i64 J8]) (t:=23) ?hr ?_;(case hd=>rfl);(case hg=>rfl);(case hr=>first|(go_simp;done)|(go_simp;rfl));intro Yq hg w8 hbox hb;have n0_:=Q0.mk (Qg (g:=QE) (by (with_reducible repeat (first|refine Q4 ?_ _|refine Q7 ?_|refine Q2 ?_ _));exact Ql.out) hb);have n1_:=Q0.mk (Qk (by repeat (first|(with_reducible first|exact HB.out|apply Q3|apply Q1|apply Q6|refine Q5 ?_ Yc.out)|exact HB.out)) hb);have n2_:=Q0.mk (hbox);have n3_:=Q0.mk ((by rw [hg];exact (Qh (by repeat (first|(with_reducible first|exact HB.out|apply Q3|apply Q1|apply Q6|refine Q5 ?_ Yc.out)|exact HB.out))):w.heap.size≤Yq));have n4_:=n3_;have n5_:=Q0.mk ((by rw [hg];exact Nat.ne_of_lt (QT (g:=QE) (by (with_reducible repeat (first|refine Q4 ?_ _|refine Q7 ?_|refine Q2 ?_ _));exact Ql.out)):QE≠Yq));have n6_:=Q0.mk (n5_.out.symm);clear Ql HB;have Ql:=n0_;have HB:=n1_;have QP:=n2_;have qpy:=n3_;have Yk:=n4_;have Zr:=n5_;have Zs:=n6_;clear n0_ n1_ n2_ n3_ n4_ n5_ n6_ hb hbox hg)|(go_at_call 36;(with_reducible refine (QX.calls a1 10001 Zf _ A4.out).mono ?_);rintro e w' ⟨rfl,⟨nd,rfl⟩⟩;(try first|exact ⟨rfl,_,World.drewN_drewN _ _ _⟩|exact ⟨rfl,_,Eq.trans (World.drewN_drewN _ _ _) (congrArg (World.drewN _) (Nat.add_assoc _ _ _))⟩);have qAy:=Zr.out;have qAS:=Zs.out;have ZS:w8.cell? ⟨QE,0,none⟩=some (.slice QD Qa.length Qu):=(Q9 Ql.out 0).trans rfl;have ZT:w8.cell? ⟨QE,1,none⟩=some (.slice QB Qf.length Qv):=(Q9 Ql.out 1).trans rfl;have ZX:w8.cell? ⟨QE,2,none⟩=some (.slice QK Qb.length Qw):=(Q9 Ql.out 2).trans rfl;have ZU:=Q8 Ql.out 0;have ZV:=Q8 Ql.out 1;have ZY:=Q8 Ql.out 2)|(go_at_call 32;(with_reducible refine (Yf.calls k _ _ Qa _ _ Qf _ _ Qb Zf Yt Z6 Z0 JH _ ?side1 ?side2 ?side3 ?side4 ?side5 ?side6 A5.out).mono ?_);(case side1=>repeat (first|exact (Kd.C_below YV.out (by repeat (first|(with_reducible first|exact HB.out|apply Q3|apply Q1|apply Q6|refine Q5 ?_ Yc.out|refine Q5 ?_ Yk.out)|exact HB.out)))|(with_reducible refine Kd.C_alloc ?_ _)|(with_reducible refine Kd.C_drewN ?_ _)|(with_reducible refine Kd.C_drew ?_)));(case side2=>exact ZA.out);(case side3=>repeat (first|exact (Kd.C_below Zj.out (by repeat (first|(with_reducible first|exact HB.out|apply Q3|apply Q1|apply Q6|refine Q5 ?_ Yc.out|refine Q5 ?_ Yk.out)|exact HB.out)))|(with_reducible refine Kd.C_alloc ?_ _)|(with_reducible refine Kd.C_drewN ?_ _)|(with_reducible refine Kd.C_drew ?_)));(case side4=>exact ZB.out);(case side5=>repeat (first|exact (Kd.C_below Z5.out (by repeat (first|(with_reducible first|exact HB.out|apply Q3|apply Q1|apply Q6|refine Q5 ?_ Yc.out|refine Q5 ?_ Yk.out)|exact HB.out)))|(with_reducible refine Kd.C_alloc ?_ _)|(with_reducible refine Kd.C_drewN ?_ _)|(with_reducible refine Kd.C_drew ?_)));(case side6=>exact ZC.out);rintro e w11 ⟨rfl,hb⟩;have n0_:=Q0.mk (Qg (g:=QE) (by (with_reducible repeat (first|refine Q4 ?_ _|refine Q7 ?_|refine Q2 ?_ _));exact Ql.out) hb);have n1_:=Q0.mk (Qg (g:=Yq) (by (with_reducible repeat (first|refine Q4 ?_ _|refine Q7 ?_|refine Q2 ?_ _));exact QP.out) hb);have n2_:=Q0.mk (Qk (by repeat (first|(with_reducible first|exact HB.out|apply Q3|apply Q1|apply Q6|refine Q5 ?_ Yc.out|refine Q5 ?_ Yk.out)|exact HB.out)) hb);clear Ql QP HB;have Ql:=n0_;have QP:=n1_;have HB:=n2_;clear n0_ n1_ n2_;(try clear hb);(try clear hb2);(try clear hk);(try clear hi))))
 (try simp only [Act.put,List.setIfInBounds_toArray,List.set_cons_zero,List.set_cons_succ])
 go_cut [40] (fun v40 wc => ∃ (kq:Nat) (qok:Bool),v40 = .bool qok∧Q0 (Qc.j0 kq Zf Yt Z6 Z0 JH qok Qa Qf Qb Jb J8=some r)∧Q0 (kq≤k)∧Q0 (wc.heap[QE]? = some (.cells #[(.slice QD Qa.length Qu),(.slice QB Qf.length Qv),(.slice QK Qb.length Qw)] 47 (0,0)))∧Q0 (wc.heap[Yq]? = some (.cells #[.int .i64 Jb,.int .i64 J8] 23 (0,0)))∧Q0 (Below w.heap.size w wc))
 case first =>
  have H:=HC6.out
  clear HC6
  by_cases c12:JH=0
  ·
   as_aux_lemma =>
   rw [if_pos c12] at H
   have c12b0:(JH==0)=true:=beq_iff_eq.mpr c12
   have c12b1:(JH != 0)=false:=bne_eq_false_iff_eq.mpr c12
   clear c12
   (first|rw [c12b0]|(simp only [QL,QO];rw [c12b0])|skip)
   replace H:=Option.bind_eq_some_iff.mp H
   obtain ⟨qgH,qpn,H⟩:=H
   replace H:(Qc.j0 k Zf Yt Z6 Z0 JH (!qgH) Qa Qf Qb Jb J8)=some r:=H
   have A13:=Q0.mk qpn
   clear qpn
   have H':=Q0.mk H
   clear H
   have qAg:=Zr.out
   have qAA:=Zs.out
   have JO:w11.cell? ⟨QE,0,none⟩=some (.slice QD Qa.length Qu):=(Q9 Ql.out 0).trans rfl
   have JP:w11.cell? ⟨QE,1,none⟩=some (.slice QB Qf.length Qv):=(Q9 Ql.out 1).trans rfl
   have JX:w11.cell? ⟨QE,2,none⟩=some (.slice QK Qb.length Qw):=(Q9 Ql.out 2).trans rfl
   have JQ:=Q8 Ql.out 0
   have JU:=Q8 Ql.out 1
   have JY:=Q8 Ql.out 2
   go_wp2_with (first|(go_at_call 51;(with_reducible refine (Qd.calls k _ _ Qa _ _ Qf _ _ Qb qgH _ ?side1 ?side2 ?side3 ?side4 ?side5 ?side6 A13.out).mono ?_);(case side1=>repeat (first|exact (Kd.C_below YV.out HB.out)|(with_reducible refine Kd.C_alloc ?_ _)|(with_reducible refine Kd.C_drewN ?_ _)|(with_reducible refine Kd.C_drew ?_)));(case side2=>exact ZA.out);(case side3=>repeat (first|exact (Kd.C_below Zj.out HB.out)|(with_reducible refine Kd.C_alloc ?_ _)|(with_reducible refine Kd.C_drewN ?_ _)|(with_reducible refine Kd.C_drew ?_)));(case side4=>exact ZB.out);(case side5=>repeat (first|exact (Kd.C_below Z5.out HB.out)|(with_reducible refine Kd.C_alloc ?_ _)|(with_reducible refine Kd.C_drewN ?_ _)|(with_reducible refine Kd.C_drew ?_)));(case side6=>exact ZC.out);rintro e w16 ⟨rfl,hb⟩;have n0_:=Q0.mk (Qg (g:=QE) (by (with_reducible repeat (first|refine Q4 ?_ _|refine Q7 ?_|refine Q2 ?_ _));exact Ql.out) hb);have n1_:=Q0.mk (Qg (g:=Yq) (by (with_reducible repeat (first|refine Q4 ?_ _|refine Q7 ?_|refine Q2 ?_ _));exact QP.out) hb);have n2_:=Q0.mk (Qk (by repeat (first|(with_reducible first|exact HB.out|apply Q3|apply Q1|apply Q6|refine Q5 ?_ Yc.out|refine Q5 ?_ Yk.out)|exact HB.out)) hb);clear Ql QP HB;have Ql:=n0_;have QP:=n1_;have HB:=n2_;clear n0_ n1_ n2_;(try clear hb);(try clear hb2);(try clear hk);(try clear hi)))
   repeat (go_quiet (first|(go_at_call 51;(with_reducible refine (Qd.calls k _ _ Qa _ _ Qf _ _ Qb qgH _ ?side1 ?side2 ?side3 ?side4 ?side5 ?side6 A13.out).mono ?_);(case side1=>repeat (first|exact (Kd.C_below YV.out HB.out)|(with_reducible refine Kd.C_alloc ?_ _)|(with_reducible refine Kd.C_drewN ?_ _)|(with_reducible refine Kd.C_drew ?_)));(case side2=>exact ZA.out);(case side3=>repeat (first|exact (Kd.C_below Zj.out HB.out)|(with_reducible refine Kd.C_alloc ?_ _)|(with_reducible refine Kd.C_drewN ?_ _)|(with_reducible refine Kd.C_drew ?_)));(case side4=>exact ZB.out);(case side5=>repeat (first|exact (Kd.C_below Z5.out HB.out)|(with_reducible refine Kd.C_alloc ?_ _)|(with_reducible refine Kd.C_drewN ?_ _)|(with_reducible refine Kd.C_drew ?_)));(case side6=>exact ZC.out);rintro e w16 ⟨rfl,hb⟩;have n0_:=Q0.mk (Qg (g:=QE) (by (with_reducible repeat (first|refine Q4 ?_ _|refine Q7 ?_|refine Q2 ?_ _));exact Ql.out) hb);have n1_:=Q0.mk (Qg (g:=Yq) (by (with_reducible repeat (first|refine Q4 ?_ _|refine Q7 ?_|refine Q2 ?_ _));exact QP.out) hb);have n2_:=Q0.mk (Qk (by repeat (first|(with_reducible first|exact HB.out|apply Q3|apply Q1|apply Q6|refine Q5 ?_ Yc.out|refine Q5 ?_ Yk.out)|exact HB.out)) hb);clear Ql QP HB;have Ql:=n0_;have QP:=n1_;have HB:=n2_;clear n0_ n1_ n2_;(try clear hb);(try clear hb2);(try clear hk);(try clear hi)));try go_wp2_with (first|(go_at_call 51;(with_reducible refine (Qd.calls k _ _ Qa _ _ Qf _ _ Qb qgH _ ?side1 ?side2 ?side3 ?side4 ?side5 ?side6 A13.out).mono ?_);(case side1=>repeat (first|exact (Kd.C_below YV.out HB.out)|(with_reducible refine Kd.C_alloc ?_ _)|(with_reducible refine Kd.C_drewN ?_ _)|(with_reducible refine Kd.C_drew ?_)));(case side2=>exact ZA.out);(case side3=>repeat (first|exact (Kd.C_below Zj.out HB.out)|(with_reducible refine Kd.C_alloc ?_ _)|(with_reducible refine Kd.C_drewN ?_ _)|(with_reducible refine Kd.C_drew ?_)));(case side4=>exact ZB.out);(case side5=>repeat (first|exact (Kd.C_below Z5.out HB.out)|(with_reducible refine Kd.C_alloc ?_ _)|(with_reducible refine Kd.C_drewN ?_ _)|(with_reducible refine Kd.C_drew ?_)));(case side6=>exact ZC.out);rintro e w16 ⟨rfl,hb⟩;have n0_:=Q0.mk (Qg (g:=QE) (by (with_reducible repeat (first|refine Q4 ?_ _|refine Q7 ?_|refine Q2 ?_ _));exact Ql.out) hb);have n1_:=Q0.mk (Qg (g:=Yq) (by (with_reducible repeat (first|refine Q4 ?_ _|refine Q7 ?_|refine Q2 ?_ _));exact QP.out) hb);have n2_:=Q0.mk (Qk (by repeat (first|(with_reducible first|exact HB.out|apply Q3|apply Q1|apply Q6|refine Q5 ?_ Yc.out|refine Q5 ?_ Yk.out)|exact HB.out)) hb);clear Ql QP HB;have Ql:=n0_;have QP:=n1_;have HB:=n2_;clear n0_ n1_ n2_;(try clear hb);(try clear hb2);(try clear hk);(try clear hi))))
   go_meet
   case rel=>exact ⟨_,(!qgH),(by first|rfl|(simp;done)|(simp [*];done)),H',⟨by first|omega|exact Nat.le_refl _⟩,⟨by (with_reducible repeat (first|refine Q4 ?_ _|refine Q7 ?_|refine Q2 ?_ _));exact Ql.out⟩,⟨by (with_reducible repeat (first|refine Q4 ?_ _|refine Q7 ?_|refine Q2 ?_ _));exact QP.out⟩,⟨by repeat (first|(with_reducible first|exact HB.out|apply Q3|apply Q1|apply Q6|refine Q5 ?_ Yc.out|refine Q5 ?_ Yk.out)|exact HB.out)⟩⟩
  as_aux_lemma =>
  rw [if_neg c12] at H
  have c12b0:(JH==0)=false:=beq_eq_false_iff_ne.mpr c12
  have c12b1:(JH != 0)=true:=bne_iff_ne.mpr c12
  (first|rw [c12b0]|(simp only [QL,QO];rw [c12b0])|skip)
  by_cases c17:JH=4
  ·
   as_aux_lemma =>
   rw [if_pos c17] at H
   have c17b0:(JH==4)=true:=beq_iff_eq.mpr c17
   have c17b1:(JH != 4)=false:=bne_eq_false_iff_eq.mpr c17
   clear c17
   replace H:=Option.bind_eq_some_iff.mp H
   obtain ⟨qeE,qjE,H⟩:=H
   replace H:(Qc.j0 k Zf Yt Z6 Z0 JH (!qeE) Qa Qf Qb Jb J8)=some r:=H
   have A18:=Q0.mk qjE
   clear qjE
   have H':=Q0.mk H
   clear H
   have qJp:=Zr.out
   have qJX:=Zs.out
   have Oe:w11.cell? ⟨QE,0,none⟩=some (.slice QD Qa.length Qu):=(Q9 Ql.out 0).trans rfl
   have Of:w11.cell? ⟨QE,1,none⟩=some (.slice QB Qf.length Qv):=(Q9 Ql.out 1).trans rfl
   have Og:w11.cell? ⟨QE,2,none⟩=some (.slice QK Qb.length Qw):=(Q9 Ql.out 2).trans rfl
   have Oh:=Q8 Ql.out 0
   have Oi:=Q8 Ql.out 1
   have Oj:=Q8 Ql.out 2
   go_wp2_with (first|(go_at_call 51;(with_reducible refine (Qd.calls k _ _ Qa _ _ Qf _ _ Qb qeE _ ?side1 ?side2 ?side3 ?side4 ?side5 ?side6 A18.out).mono ?_);(case side1=>repeat (first|exact (Kd.C_below YV.out HB.out)|(with_reducible refine Kd.C_alloc ?_ _)|(with_reducible refine Kd.C_drewN ?_ _)|(with_reducible refine Kd.C_drew ?_)));(case side2=>exact ZA.out);(case side3=>repeat (first|exact (Kd.C_below Zj.out HB.out)|(with_reducible refine Kd.C_alloc ?_ _)|(with_reducible refine Kd.C_drewN ?_ _)|(with_reducible refine Kd.C_drew ?_)));(case side4=>exact ZB.out);(case side5=>repeat (first|exact (Kd.C_below Z5.out HB.out)|(with_reducible refine Kd.C_alloc ?_ _)|(with_reducible refine Kd.C_drewN ?_ _)|(with_reducible refine Kd.C_drew ?_)));(case side6=>exact ZC.out);rintro e w21 ⟨rfl,hb⟩;have n0_:=Q0.mk (Qg (g:=QE) (by (with_reducible repeat (first|refine Q4 ?_ _|refine Q7 ?_|refine Q2 ?_ _));exact Ql.out) hb);have n1_:=Q0.mk (Qg (g:=Yq) (by (with_reducible repeat (first|refine Q4 ?_ _|refine Q7 ?_|refine Q2 ?_ _));exact QP.out) hb);have n2_:=Q0.mk (Qk (by repeat (first|(with_reducible first|exact HB.out|apply Q3|apply Q1|apply Q6|refine Q5 ?_ Yc.out|refine Q5 ?_ Yk.out)|exact HB.out)) hb);clear Ql QP HB;have Ql:=n0_;have QP:=n1_;have HB:=n2_;clear n0_ n1_ n2_;(try clear hb);(try clear hb2);(try clear hk);(try clear hi)))
   repeat (go_quiet (first|(go_at_call 51;(with_reducible refine (Qd.calls k _ _ Qa _ _ Qf _ _ Qb qeE _ ?side1 ?side2 ?side3 ?side4 ?side5 ?side6 A18.out).mono ?_);(case side1=>repeat (first|exact (Kd.C_below YV.out HB.out)|(with_reducible refine Kd.C_alloc ?_ _)|(with_reducible refine Kd.C_drewN ?_ _)|(with_reducible refine Kd.C_drew ?_)));(case side2=>exact ZA.out);(case side3=>repeat (first|exact (Kd.C_below Zj.out HB.out)|(with_reducible refine Kd.C_alloc ?_ _)|(with_reducible refine Kd.C_drewN ?_ _)|(with_reducible refine Kd.C_drew ?_)));(case side4=>exact ZB.out);(case side5=>repeat (first|exact (Kd.C_below Z5.out HB.out)|(with_reducible refine Kd.C_alloc ?_ _)|(with_reducible refine Kd.C_drewN ?_ _)|(with_reducible refine Kd.C_drew ?_)));(case side6=>exact ZC.out);rintro e w21 ⟨rfl,hb⟩;have n0_:=Q0.mk (Qg (g:=QE) (by (with_reducible repeat (first|refine Q4 ?_ _|refine Q7 ?_|refine Q2 ?_ _));exact Ql.out) hb);have n1_:=Q0.mk (Qg (g:=Yq) (by (with_reducible repeat (first|refine Q4 ?_ _|refine Q7 ?_|refine Q2 ?_ _));exact QP.out) hb);have n2_:=Q0.mk (Qk (by repeat (first|(with_reducible first|exact HB.out|apply Q3|apply Q1|apply Q6|refine Q5 ?_ Yc.out|refine Q5 ?_ Yk.out)|exact HB.out)) hb);clear Ql QP HB;have Ql:=n0_;have QP:=n1_;have HB:=n2_;clear n0_ n1_ n2_;(try clear hb);(try clear hb2);(try clear hk);(try clear hi)));try go_wp2_with (first|(go_at_call 51;(with_reducible refine (Qd.calls k _ _ Qa _ _ Qf _ _ Qb qeE _ ?side1 ?side2 ?side3 ?side4 ?side5 ?side6 A18.out).mono ?_);(case side1=>repeat (first|exact (Kd.C_below YV.out HB.out)|(with_reducible refine Kd.C_alloc ?_ _)|(with_reducible refine Kd.C_drewN ?_ _)|(with_reducible refine Kd.C_drew ?_)));(case side2=>exact ZA.out);(case side3=>repeat (first|exact (Kd.C_below Zj.out HB.out)|(with_reducible refine Kd.C_alloc ?_ _)|(with_reducible refine Kd.C_drewN ?_ _)|(with_reducible refine Kd.C_drew ?_)));(case side4=>exact ZB.out);(case side5=>repeat (first|exact (Kd.C_below Z5.out HB.out)|(with_reducible refine Kd.C_alloc ?_ _)|(with_reducible refine Kd.C_drewN ?_ _)|(with_reducible refine Kd.C_drew ?_)));(case side6=>exact ZC.out);rintro e w21 ⟨rfl,hb⟩;have n0_:=Q0.mk (Qg (g:=QE) (by (with_reducible repeat (first|refine Q4 ?_ _|refine Q7 ?_|refine Q2 ?_ _));exact Ql.out) hb);have n1_:=Q0.mk (Qg (g:=Yq) (by (with_reducible repeat (first|refine Q4 ?_ _|refine Q7 ?_|refine Q2 ?_ _));exact QP.out) hb);have n2_:=Q0.mk (Qk (by repeat (first|(with_reducible first|exact HB.out|apply Q3|apply Q1|apply Q6|refine Q5 ?_ Yc.out|refine Q5 ?_ Yk.out)|exact HB.out)) hb);clear Ql QP HB;have Ql:=n0_;have QP:=n1_;have HB:=n2_;clear n0_ n1_ n2_;(try clear hb);(try clear hb2);(try clear hk);(try clear hi))))
   go_meet
   case rel=>exact ⟨_,(!qeE),(by first|rfl|(simp;done)|(simp [*];done)),H',⟨by first|omega|exact Nat.le_refl _⟩,⟨by (with_reducible repeat (first|refine Q4 ?_ _|refine Q7 ?_|refine Q2 ?_ _));exact Ql.out⟩,⟨by (with_reducible repeat (first|refine Q4 ?_ _|refine Q7 ?_|refine Q2 ?_ _));exact QP.out⟩,⟨by repeat (first|(with_reducible first|exact HB.out|apply Q3|apply Q1|apply Q6|refine Q5 ?_ Yc.out|refine Q5 ?_ Yk.out)|exact HB.out)⟩⟩
  rw [if_neg c17] at H
  have c17b0:(JH==4)=false:=beq_eq_false_iff_ne.mpr c17
  have c17b1:(JH != 4)=true:=bne_iff_ne.mpr c17
  have H':=Q0.mk H
  clear H
  go_wp2
  repeat (go_quiet (fail);try go_wp2)
  go_meet
  case rel=>exact ⟨_,(true),(by first|rfl|(simp;done)|(simp [*];done)),H',⟨by first|omega|exact Nat.le_refl _⟩,⟨by (with_reducible repeat (first|refine Q4 ?_ _|refine Q7 ?_|refine Q2 ?_ _));exact Ql.out⟩,⟨by (with_reducible repeat (first|refine Q4 ?_ _|refine Q7 ?_|refine Q2 ?_ _));exact QP.out⟩,⟨by repeat (first|(with_reducible first|exact HB.out|apply Q3|apply Q1|apply Q6|refine Q5 ?_ Yc.out|refine Q5 ?_ Yk.out)|exact HB.out)⟩⟩
 case rest =>
  clear HC6
  try clear c1
  try clear p2
  try clear c9
  try clear c12
  try clear c12b0
  try clear c12b1
  try clear c14
  try clear c15
  try clear c17
  try clear c17b0
  try clear c17b1
  try clear c19
  try clear ZS
  try clear ZT
  try clear ZX
  try clear JO
  try clear JP
  try clear JX
  try clear Oe
  try clear Of
  try clear Og
  try clear ZU
  try clear ZV
  try clear ZY
  try clear JQ
  try clear JU
  try clear JY
  try clear Oh
  try clear Oi
  try clear Oj
  obtain ⟨kq,qok,rfl,HA,HJ5,Ql,QP,HB⟩:=hcut
  cases kq with
  | zero=>exact absurd HA.out (by simp [Qc.j0])
  | succ kj5 =>
   have H:=HA.out
   clear HA
   simp only [Qc.j0] at H
   by_cases c22:qok=true
   ·
    as_aux_lemma =>
    subst c22
    have H1:(if JH=93 then (if Yt=0 then (if Z6=0 then (if Z0=0 then ((Z2.f).bind fun qeF=>(some qeF)) else (some false)) else (some false)) else (some false)) else (some false))=some r:=by rw [if_pos rfl] at H;exact H
    clear H;have H:=H1;clear H1
    by_cases c23:JH=93
    ·
     as_aux_lemma =>
     rw [if_pos c23] at H;have c23b0:(JH==93)=true:=beq_iff_eq.mpr c23;have c23b1:(JH != 93)=false:=bne_eq_false_iff_eq.mpr c23;clear c23
     by_cases c24:Yt=0
     ·
      as_aux_lemma =>
      rw [if_pos c24] at H;have c24b0:(Yt==0)=true:=beq_iff_eq.mpr c24;have c24b1:(Yt != 0)=false:=bne_eq_false_iff_eq.mpr c24;clear c24
      by_cases c25:Z6=0
      ·
       as_aux_lemma =>
       rw [if_pos c25] at H;have c25b0:(Z6==0)=true:=beq_iff_eq.mpr c25;have c25b1:(Z6 != 0)=false:=bne_eq_false_iff_eq.mpr c25;clear c25
       by_cases c26:Z0=0
       ·
        as_aux_lemma =>
        rw [if_pos c26] at H;have c26b0:(Z0==0)=true:=beq_iff_eq.mpr c26;have c26b1:(Z0 != 0)=false:=bne_eq_false_iff_eq.mpr c26;clear c26;replace H:=Option.bind_eq_some_iff.mp H;obtain ⟨qeF,qjH,H⟩:=H;replace H:(some qeF)=some r:=H;have A27:=Q0.mk qjH;clear qjH;obtain rfl:=Option.some.inj H
        go_wp2_with (first|(go_at_call 21;(with_reducible refine (Z2.calls  qeF _ A27.out).mono ?_);rintro e w28 ⟨rfl,hb⟩;have n0_:=Q0.mk (Qg (g:=QE) (by (with_reducible repeat (first|refine Q4 ?_ _|refine Q7 ?_|refine Q2 ?_ _));exact Ql.out) hb);have n1_:=Q0.mk (Qg (g:=Yq) (by (with_reducible repeat (first|refine Q4 ?_ _|refine Q7 ?_|refine Q2 ?_ _));exact QP.out) hb);have n2_:=Q0.mk (Qk (by repeat (first|(with_reducible first|exact HB.out|apply Q3|apply Q1|apply Q6|refine Q5 ?_ Yc.out|refine Q5 ?_ Yk.out)|exact HB.out)) hb);clear Ql QP HB;have Ql:=n0_;have QP:=n1_;have HB:=n2_;clear n0_ n1_ n2_;(try clear hb);(try clear hb2);(try clear hk);(try clear hi)))
        repeat (go_quiet (first|(go_at_call 21;(with_reducible refine (Z2.calls  qeF _ A27.out).mono ?_);rintro e w28 ⟨rfl,hb⟩;have n0_:=Q0.mk (Qg (g:=QE) (by (with_reducible repeat (first|refine Q4 ?_ _|refine Q7 ?_|refine Q2 ?_ _));exact Ql.out) hb);have n1_:=Q0.mk (Qg (g:=Yq) (by (with_reducible repeat (first|refine Q4 ?_ _|refine Q7 ?_|refine Q2 ?_ _));exact QP.out) hb);have n2_:=Q0.mk (Qk (by repeat (first|(with_reducible first|exact HB.out|apply Q3|apply Q1|apply Q6|refine Q5 ?_ Yc.out|refine Q5 ?_ Yk.out)|exact HB.out)) hb);clear Ql QP HB;have Ql:=n0_;have QP:=n1_;have HB:=n2_;clear n0_ n1_ n2_;(try clear hb);(try clear hb2);(try clear hk);(try clear hi)));try go_wp2_with (first|(go_at_call 21;(with_reducible refine (Z2.calls  qeF _ A27.out).mono ?_);rintro e w28 ⟨rfl,hb⟩;have n0_:=Q0.mk (Qg (g:=QE) (by (with_reducible repeat (first|refine Q4 ?_ _|refine Q7 ?_|refine Q2 ?_ _));exact Ql.out) hb);have n1_:=Q0.mk (Qg (g:=Yq) (by (with_reducible repeat (first|refine Q4 ?_ _|refine Q7 ?_|refine Q2 ?_ _));exact QP.out) hb);have n2_:=Q0.mk (Qk (by repeat (first|(with_reducible first|exact HB.out|apply Q3|apply Q1|apply Q6|refine Q5 ?_ Yc.out|refine Q5 ?_ Yk.out)|exact HB.out)) hb);clear Ql QP HB;have Ql:=n0_;have QP:=n1_;have HB:=n2_;clear n0_ n1_ n2_;(try clear hb);(try clear hb2);(try clear hk);(try clear hi))))
        go_ret
        exact ⟨by first|rfl|(simp [Qz,QA]<;>rfl)|(simp [*,Qz,QA]<;>rfl),by repeat (first|(with_reducible first|exact HB.out|apply Q3|apply Q1|apply Q6|refine Q5 ?_ Yc.out|refine Q5 ?_ Yk.out)|exact HB.out)⟩
       rw [if_neg c26] at H;have c26b0:(Z0==0)=false:=beq_eq_false_iff_ne.mpr c26;have c26b1:(Z0 != 0)=true:=bne_iff_ne.mpr c26;obtain rfl:=Option.some.inj H
       go_wp2
       repeat (go_quiet (fail);try go_wp2)
       go_ret
       exact ⟨by first|rfl|(simp [Qz,QA]<;>rfl)|(simp [*,Qz,QA]<;>rfl),by repeat (first|(with_reducible first|exact HB.out|apply Q3|apply Q1|apply Q6|refine Q5 ?_ Yc.out|refine Q5 ?_ Yk.out)|exact HB.out)⟩
      rw [if_neg c25] at H;have c25b0:(Z6==0)=false:=beq_eq_false_iff_ne.mpr c25;have c25b1:(Z6 != 0)=true:=bne_iff_ne.mpr c25;obtain rfl:=Option.some.inj H
      go_wp2
      repeat (go_quiet (fail);try go_wp2)
      go_ret
      exact ⟨by first|rfl|(simp [Qz,QA]<;>rfl)|(simp [*,Qz,QA]<;>rfl),by repeat (first|(with_reducible first|exact HB.out|apply Q3|apply Q1|apply Q6|refine Q5 ?_ Yc.out|refine Q5 ?_ Yk.out)|exact HB.out)⟩
     rw [if_neg c24] at H;have c24b0:(Yt==0)=false:=beq_eq_false_iff_ne.mpr c24;have c24b1:(Yt != 0)=true:=bne_iff_ne.mpr c24;obtain rfl:=Option.some.inj H
     go_wp2
     repeat (go_quiet (fail);try go_wp2)
     go_ret
     exact ⟨by first|rfl|(simp [Qz,QA]<;>rfl)|(simp [*,Qz,QA]<;>rfl),by repeat (first|(with_reducible first|exact HB.out|apply Q3|apply Q1|apply Q6|refine Q5 ?_ Yc.out|refine Q5 ?_ Yk.out)|exact HB.out)⟩
    rw [if_neg c23] at H;have c23b0:(JH==93)=false:=beq_eq_false_iff_ne.mpr c23;have c23b1:(JH != 93)=true:=bne_iff_ne.mpr c23;obtain rfl:=Option.some.inj H
    go_wp2
    repeat (go_quiet (fail);try go_wp2)
    go_ret
    exact ⟨by first|rfl|(simp [Qz,QA]<;>rfl)|(simp [*,Qz,QA]<;>rfl),by repeat (first|(with_reducible first|exact HB.out|apply Q3|apply Q1|apply Q6|refine Q5 ?_ Yc.out|refine Q5 ?_ Yk.out)|exact HB.out)⟩
   as_aux_lemma =>
   replace c22:=Bool.eq_false_iff.mpr c22
   subst c22
   have H1:((QX.f Jb (Qa.length:Int)).bind fun YA=>((QX.f J8 (Qb.length:Int)).bind fun ZZ=>((Qt.f kj5 Qa Qf Qb YA ZZ Zf ([]:List Int)).bind fun GG=>(if 0<(Qb.length:Int) then (if 0<((Qs Qb 0).length:Int) then (if GG.2=0 then (Qc.j1 kj5 Zf Yt Z6 Z0 JH YA ZZ GG.1 ((QC (Qs Qb 0) 0).length:Int) ((GG.1.length:Int) != ((QC (Qs Qb 0) 0).length:Int)) Qa Qf Qb) else (Qc.j1 kj5 Zf Yt Z6 Z0 JH YA ZZ GG.1 ((QC (Qs Qb 0) 0).length:Int) true Qa Qf Qb)) else (none)) else (none)))))=some r:=by rw [if_neg (show ¬ (false=true) by decide)] at H;exact H
   clear H
   have H:=H1
   clear H1
   replace H:=Option.bind_eq_some_iff.mp H
   obtain ⟨YA,qxu,H⟩:=H
   replace H:((QX.f J8 (Qb.length:Int)).bind fun ZZ=>((Qt.f kj5 Qa Qf Qb YA ZZ Zf ([]:List Int)).bind fun GG=>(if 0<(Qb.length:Int) then (if 0<((Qs Qb 0).length:Int) then (if GG.2=0 then (Qc.j1 kj5 Zf Yt Z6 Z0 JH YA ZZ GG.1 ((QC (Qs Qb 0) 0).length:Int) ((GG.1.length:Int) != ((QC (Qs Qb 0) 0).length:Int)) Qa Qf Qb) else (Qc.j1 kj5 Zf Yt Z6 Z0 JH YA ZZ GG.1 ((QC (Qs Qb 0) 0).length:Int) true Qa Qf Qb)) else (none)) else (none))))=some r:=H
   have A29:=Q0.mk qxu
   clear qxu
   replace H:=Option.bind_eq_some_iff.mp H
   obtain ⟨ZZ,qpp,H⟩:=H
   replace H:((Qt.f kj5 Qa Qf Qb YA ZZ Zf ([]:List Int)).bind fun GG=>(if 0<(Qb.length:Int) then (if 0<((Qs Qb 0).length:Int) then (if GG.2=0 then (Qc.j1 kj5 Zf Yt Z6 Z0 JH YA ZZ GG.1 ((QC (Qs Qb 0) 0).length:Int) ((GG.1.length:Int) != ((QC (Qs Qb 0) 0).length:Int)) Qa Qf Qb) else (Qc.j1 kj5 Zf Yt Z6 Z0 JH YA ZZ GG.1 ((QC (Qs Qb 0) 0).length:Int) true Qa Qf Qb)) else (none)) else (none)))=some r:=H
   have A30:=Q0.mk qpp
   clear qpp
   replace H:=Option.bind_eq_some_iff.mp H
   obtain ⟨⟨Zp,qeb⟩,qpq,H⟩:=H
   replace H:(if 0<(Qb.length:Int) then (if 0<((Qs Qb 0).length:Int) then (if qeb=0 then (Qc.j1 kj5 Zf Yt Z6 Z0 JH YA ZZ Zp ((QC (Qs Qb 0) 0).length:Int) ((Zp.length:Int) != ((QC (Qs Qb 0) 0).length:Int)) Qa Qf Qb) else (Qc.j1 kj5 Zf Yt Z6 Z0 JH YA ZZ Zp ((QC (Qs Qb 0) 0).length:Int) true Qa Qf Qb)) else (none)) else (none))=some r:=H
   have A31:=Q0.mk qpq
   clear qpq
   by_cases c32:0<(Qb.length:Int)
   ·
    as_aux_lemma =>
    rw [if_pos c32] at H;have c32b0:decide (0<(Qb.length:Int))=true:=decide_eq_true c32;have c32b1:decide (0<Qb.length)=true:=decide_eq_true (by omega);clear c32
    by_cases c33:0<((Qs Qb 0).length:Int)
    ·
     as_aux_lemma =>
     rw [if_pos c33] at H;have c33b0:decide (0<((Qs Qb 0).length:Int))=true:=decide_eq_true c33;have c33b1:decide (0<(Qs Qb 0).length)=true:=decide_eq_true (by omega);clear c33;have qlq:=Q0.mk H;clear H;have qvj:=Zs.out;have qvm:=Zr.out;have qbK:wc.cell? ⟨Yq,0,none⟩=some (.int .i64 Jb):=(Q9 QP.out 0).trans rfl;have qbL:wc.cell? ⟨Yq,1,none⟩=some (.int .i64 J8):=(Q9 QP.out 1).trans rfl;have qbP:=Q8 QP.out 0;have qbQ:=Q8 QP.out 1;have XY:wc.cell? ⟨QE,0,none⟩=some (.slice QD Qa.length Qu):=(Q9 Ql.out 0).trans rfl;have XZ:wc.cell? ⟨QE,1,none⟩=some (.slice QB Qf.length Qv):=(Q9 Ql.out 1).trans rfl;have qaa:wc.cell? ⟨QE,2,none⟩=some (.slice QK Qb.length Qw):=(Q9 Ql.out 2).trans rfl;have qam:=Q8 Ql.out 0;have qan:=Q8 Ql.out 1;have qao:=Q8 Ql.out 2
     go_upto_region 8 with (first|(go_at_call 36;(with_reducible refine (QX.calls Jb (Qa.length:Int) YA _ A29.out).mono ?_);rintro e w' ⟨rfl,⟨nd,rfl⟩⟩;(try first|exact ⟨rfl,_,World.drewN_drewN _ _ _⟩|exact ⟨rfl,_,Eq.trans (World.drewN_drewN _ _ _) (congrArg (World.drewN _) (Nat.add_assoc _ _ _))⟩))|(go_at_call 36;(with_reducible refine (QX.calls J8 (Qb.length:Int) ZZ _ A30.out).mono ?_);rintro e w' ⟨rfl,⟨nd,rfl⟩⟩;(try first|exact ⟨rfl,_,World.drewN_drewN _ _ _⟩|exact ⟨rfl,_,Eq.trans (World.drewN_drewN _ _ _) (congrArg (World.drewN _) (Nat.add_assoc _ _ _))⟩))|(go_at_call 52;(refine (Qt.calls kj5 _ _ Qa _ _ Qf _ _ Qb YA ZZ Zf _ _ ([]:List Int) Zp qeb _ ?side1 ?side2 ?side3 ?side4 ?side5 ?side6 ?side7 ?side8 A31.out).mono ?_);(case side1=>repeat (first|exact (Kd.C_below YV.out (by repeat (first|(with_reducible first|exact HB.out|apply Q3|apply Q1|apply Q6|refine Q5 ?_ Yc.out|refine Q5 ?_ Yk.out)|exact HB.out)))|(with_reducible refine Kd.C_alloc ?_ _)|(with_reducible refine Kd.C_drewN ?_ _)|(with_reducible refine Kd.C_drew ?_)));(case side2=>exact ZA.out);(case side3=>repeat (first|exact (Kd.C_below Zj.out (by repeat (first|(with_reducible first|exact HB.out|apply Q3|apply Q1|apply Q6|refine Q5 ?_ Yc.out|refine Q5 ?_ Yk.out)|exact HB.out)))|(with_reducible refine Kd.C_alloc ?_ _)|(with_reducible refine Kd.C_drewN ?_ _)|(with_reducible refine Kd.C_drew ?_)));(case side4=>exact ZB.out);(case side5=>repeat (first|exact (Kd.C_below Z5.out (by repeat (first|(with_reducible first|exact HB.out|apply Q3|apply Q1|apply Q6|refine Q5 ?_ Yc.out|refine Q5 ?_ Yk.out)|exact HB.out)))|(with_reducible refine Kd.C_alloc ?_ _)|(with_reducible refine Kd.C_drewN ?_ _)|(with_reducible refine Kd.C_drew ?_)));(case side6=>exact ZC.out);(case side7=>exact Kd.C_nil _ _);(case side8=>exact Nat.le_refl _);rintro e w38 ⟨qgO,rfl,ho0,hb⟩;have n0_:=Q0.mk (Kd.V_lower (Kd.V_mono (ok':=fun k_=>k_≠QE∧k_≠Yq) ho0 (fun k_ hk_=>⟨(Kd.freshB (g:=QE) (by (with_reducible repeat (first|refine Q4 ?_ _|refine Q7 ?_|refine Q2 ?_ _));exact Ql.out) k_ hk_),(Kd.freshB (g:=Yq) (by (with_reducible repeat (first|refine Q4 ?_ _|refine Q7 ?_|refine Q2 ?_ _));exact QP.out) k_ hk_)⟩)) (Qh (by repeat (first|(with_reducible first|exact HB.out|apply Q3|apply Q1|apply Q6|refine Q5 ?_ Yc.out|refine Q5 ?_ Yk.out)|exact HB.out))));have n1_:=Q0.mk (Qg (g:=QE) (by (with_reducible repeat (first|refine Q4 ?_ _|refine Q7 ?_|refine Q2 ?_ _));exact Ql.out) hb);have n2_:=Q0.mk (Qg (g:=Yq) (by (with_reducible repeat (first|refine Q4 ?_ _|refine Q7 ?_|refine Q2 ?_ _));exact QP.out) hb);have n3_:=Q0.mk (Qk (by repeat (first|(with_reducible first|exact HB.out|apply Q3|apply Q1|apply Q6|refine Q5 ?_ Yc.out|refine Q5 ?_ Yk.out)|exact HB.out)) hb);clear Ql QP HB;have qf3:=n0_;have Ql:=n1_;have QP:=n2_;have HB:=n3_;clear n0_ n1_ n2_ n3_;(try clear hb);(try clear hb2);(try clear hk);(try clear hi);(try clear ho0);have W8:w38.cell? ⟨QE,0,none⟩=some (.slice QD Qa.length Qu):=(Q9 Ql.out 0).trans rfl;have W9:w38.cell? ⟨QE,1,none⟩=some (.slice QB Qf.length Qv):=(Q9 Ql.out 1).trans rfl;have Wa:w38.cell? ⟨QE,2,none⟩=some (.slice QK Qb.length Qw):=(Q9 Ql.out 2).trans rfl;have Wh:=Q8 Ql.out 0;have Wi:=Q8 Ql.out 1;have Wj:=Q8 Ql.out 2;have UW:0≤(0:Int):=(by omega);have UY:0<(Qb.length:Int):=of_decide_eq_true (by first|(with_reducible assumption)|assumption);obtain ⟨Zb,qmO,qnh,qj0,Jy,UM,UK⟩:=WY Z5.out 0 UW UY;cases qj0;have qrs:(0<Qb.length)=True:=eq_true (by omega);(try rw [show ((0:Int)).toNat=0 from rfl] at Jy);(try rw [Addr.add_zero'] at Jy);replace Jy:=(HB.out.cell (World.block_lt_of_cell? w _ Jy)).trans Jy;have qa0:=Q0.mk UK;have qjM:=Q0.mk UM;clear UK UM;replace UW:=eq_true UW;replace UY:=eq_true UY;have UX:0≤(0:Int):=(by omega);have UZ:0<((Qs Qb 0).length:Int):=of_decide_eq_true (by first|(with_reducible assumption)|assumption);obtain ⟨qp5,qmP,qni,qj1,Jz,UN,UL⟩:=WX qa0.out 0 UX UZ;cases qj1;have qrt:(0<(Qs Qb 0).length)=True:=eq_true (by omega);(try rw [show ((0:Int)).toNat=0 from rfl] at Jz);(try rw [Addr.add_zero'] at Jz);replace Jz:=(HB.out.cell (World.block_lt_of_cell? w _ Jz)).trans Jz;have qjP:=Q0.mk UL;have qjN:=Q0.mk UN;clear UL UN;replace UX:=eq_true UX;replace UZ:=eq_true UZ))
     repeat (go_quiet (first|(go_at_call 36;(with_reducible refine (QX.calls Jb (Qa.length:Int) YA _ A29.out).mono ?_);rintro e w' ⟨rfl,⟨nd,rfl⟩⟩;(try first|exact ⟨rfl,_,World.drewN_drewN _ _ _⟩|exact ⟨rfl,_,Eq.trans (World.drewN_drewN _ _ _) (congrArg (World.drewN _) (Nat.add_assoc _ _ _))⟩))|(go_at_call 36;(with_reducible refine (QX.calls J8 (Qb.length:Int) ZZ _ A30.out).mono ?_);rintro e w' ⟨rfl,⟨nd,rfl⟩⟩;(try first|exact ⟨rfl,_,World.drewN_drewN _ _ _⟩|exact ⟨rfl,_,Eq.trans (World.drewN_drewN _ _ _) (congrArg (World.drewN _) (Nat.add_assoc _ _ _))⟩))|(go_at_call 52;(refine (Qt.calls kj5 _ _ Qa _ _ Qf _ _ Qb YA ZZ Zf _ _ ([]:List Int) Zp qeb _ ?side1 ?side2 ?side3 ?side4 ?side5 ?side6 ?side7 ?side8 A31.out).mono ?_);(case side1=>repeat (first|exact (Kd.C_below YV.out (by repeat (first|(with_reducible first|exact HB.out|apply Q3|apply Q1|apply Q6|refine Q5 ?_ Yc.out|refine Q5 ?_ Yk.out)|exact HB.out)))|(with_reducible refine Kd.C_alloc ?_ _)|(with_reducible refine Kd.C_drewN ?_ _)|(with_reducible refine Kd.C_drew ?_)));(case side2=>exact ZA.out);(case side3=>repeat (first|exact (Kd.C_below Zj.out (by repeat (first|(with_reducible first|exact HB.out|apply Q3|apply Q1|apply Q6|refine Q5 ?_ Yc.out|refine Q5 ?_ Yk.out)|exact HB.out)))|(with_reducible refine Kd.C_alloc ?_ _)|(with_reducible refine Kd.C_drewN ?_ _)|(with_reducible refine Kd.C_drew ?_)));(case side4=>exact ZB.out);(case side5=>repeat (first|exact (Kd.C_below Z5.out (by repeat (first|(with_reducible first|exact HB.out|apply Q3|apply Q1|apply Q6|refine Q5 ?_ Yc.out|refine Q5 ?_ Yk.out)|exact HB.out)))|(with_reducible refine Kd.C_alloc ?_ _)|(with_reducible refine Kd.C_drewN ?_ _)|(with_reducible refine Kd.C_drew ?_)));(case side6=>exact ZC.out);(case side7=>exact Kd.C_nil _ _);(case side8=>exact Nat.le_refl _);rintro e w38 ⟨qgO,rfl,ho0,hb⟩;have n0_:=Q0.mk (Kd.V_lower (Kd.V_mono (ok':=fun k_=>k_≠QE∧k_≠Yq) ho0 (fun k_ hk_=>⟨(Kd.freshB (g:=QE) (by (with_reducible repeat (first|refine Q4 ?_ _|refine Q7 ?_|refine Q2 ?_ _));exact Ql.out) k_ hk_),(Kd.freshB (g:=Yq) (by (with_reducible repeat (first|refine Q4 ?_ _|refine Q7 ?_|refine Q2 ?_ _));exact QP.out) k_ hk_)⟩)) (Qh (by repeat (first|(with_reducible first|exact HB.out|apply Q3|apply Q1|apply Q6|refine Q5 ?_ Yc.out|refine Q5 ?_ Yk.out)|exact HB.out))));have n1_:=Q0.mk (Qg (g:=QE) (by (with_reducible repeat (first|refine Q4 ?_ _|refine Q7 ?_|refine Q2 ?_ _));exact Ql.out) hb);have n2_:=Q0.mk (Qg (g:=Yq) (by (with_reducible repeat (first|refine Q4 ?_ _|refine Q7 ?_|refine Q2 ?_ _));exact QP.out) hb);have n3_:=Q0.mk (Qk (by repeat (first|(with_reducible first|exact HB.out|apply Q3|apply Q1|apply Q6|refine Q5 ?_ Yc.out|refine Q5 ?_ Yk.out)|exact HB.out)) hb);clear Ql QP HB;have qf3:=n0_;have Ql:=n1_;have QP:=n2_;have HB:=n3_;clear n0_ n1_ n2_ n3_;(try clear hb);(try clear hb2);(try clear hk);(try clear hi);(try clear ho0);have W8:w38.cell? ⟨QE,0,none⟩=some (.slice QD Qa.length Qu):=(Q9 Ql.out 0).trans rfl;have W9:w38.cell? ⟨QE,1,none⟩=some (.slice QB Qf.length Qv):=(Q9 Ql.out 1).trans rfl;have Wa:w38.cell? ⟨QE,2,none⟩=some (.slice QK Qb.length Qw):=(Q9 Ql.out 2).trans rfl;have Wh:=Q8 Ql.out 0;have Wi:=Q8 Ql.out 1;have Wj:=Q8 Ql.out 2;have UW:0≤(0:Int):=(by omega);have UY:0<(Qb.length:Int):=of_decide_eq_true (by first|(with_reducible assumption)|assumption);obtain ⟨Zb,qmO,qnh,qj0,Jy,UM,UK⟩:=WY Z5.out 0 UW UY;cases qj0;have qrs:(0<Qb.length)=True:=eq_true (by omega);(try rw [show ((0:Int)).toNat=0 from rfl] at Jy);(try rw [Addr.add_zero'] at Jy);replace Jy:=(HB.out.cell (World.block_lt_of_cell? w _ Jy)).trans Jy;have qa0:=Q0.mk UK;have qjM:=Q0.mk UM;clear UK UM;replace UW:=eq_true UW;replace UY:=eq_true UY;have UX:0≤(0:Int):=(by omega);have UZ:0<((Qs Qb 0).length:Int):=of_decide_eq_true (by first|(with_reducible assumption)|assumption);obtain ⟨qp5,qmP,qni,qj1,Jz,UN,UL⟩:=WX qa0.out 0 UX UZ;cases qj1;have qrt:(0<(Qs Qb 0).length)=True:=eq_true (by omega);(try rw [show ((0:Int)).toNat=0 from rfl] at Jz);(try rw [Addr.add_zero'] at Jz);replace Jz:=(HB.out.cell (World.block_lt_of_cell? w _ Jz)).trans Jz;have qjP:=Q0.mk UL;have qjN:=Q0.mk UN;clear UL UN;replace UX:=eq_true UX;replace UZ:=eq_true UZ));go_upto_region 8 with (first|(go_at_call 36;(with_reducible refine (QX.calls Jb (Qa.length:Int) YA _ A29.out).mono ?_);rintro e w' ⟨rfl,⟨nd,rfl⟩⟩;(try first|exact ⟨rfl,_,World.drewN_drewN _ _ _⟩|exact ⟨rfl,_,Eq.trans (World.drewN_drewN _ _ _) (congrArg (World.drewN _) (Nat.add_assoc _ _ _))⟩))|(go_at_call 36;(with_reducible refine (QX.calls J8 (Qb.length:Int) ZZ _ A30.out).mono ?_);rintro e w' ⟨rfl,⟨nd,rfl⟩⟩;(try first|exact ⟨rfl,_,World.drewN_drewN _ _ _⟩|exact ⟨rfl,_,Eq.trans (World.drewN_drewN _ _ _) (congrArg (World.drewN _) (Nat.add_assoc _ _ _))⟩))|(go_at_call 52;(refine (Qt.calls kj5 _ _ Qa _ _ Qf _ _ Qb YA ZZ Zf _ _ ([]:List Int) Zp qeb _ ?side1 ?side2 ?side3 ?side4 ?side5 ?side6 ?side7 ?side8 A31.out).mono ?_);(case side1=>repeat (first|exact (Kd.C_below YV.out (by repeat (first|(with_reducible first|exact HB.out|apply Q3|apply Q1|apply Q6|refine Q5 ?_ Yc.out|refine Q5 ?_ Yk.out)|exact HB.out)))|(with_reducible refine Kd.C_alloc ?_ _)|(with_reducible refine Kd.C_drewN ?_ _)|(with_reducible refine Kd.C_drew ?_)));(case side2=>exact ZA.out);(case side3=>repeat (first|exact (Kd.C_below Zj.out (by repeat (first|(with_reducible first|exact HB.out|apply Q3|apply Q1|apply Q6|refine Q5 ?_ Yc.out|refine Q5 ?_ Yk.out)|exact HB.out)))|(with_reducible refine Kd.C_alloc ?_ _)|(with_reducible refine Kd.C_drewN ?_ _)|(with_reducible refine Kd.C_drew ?_)));(case side4=>exact ZB.out);(case side5=>repeat (first|exact (Kd.C_below Z5.out (by repeat (first|(with_reducible first|exact HB.out|apply Q3|apply Q1|apply Q6|refine Q5 ?_ Yc.out|refine Q5 ?_ Yk.out)|exact HB.out)))|(with_reducible refine Kd.C_alloc ?_ _)|(with_reducible refine Kd.C_drewN ?_ _)|(with_reducible refine Kd.C_drew ?_)));(case side6=>exact ZC.out);(case side7=>exact Kd.C_nil _ _);(case side8=>exact Nat.le_refl _);rintro e w38 ⟨qgO,rfl,ho0,hb⟩;have n0_:=Q0.mk (Kd.V_lower (Kd.V_mono (ok':=fun k_=>k_≠QE∧k_≠Yq) ho0 (fun k_ hk_=>⟨(Kd.freshB (g:=QE) (by (with_reducible repeat (first|refine Q4 ?_ _|refine Q7 ?_|refine Q2 ?_ _));exact Ql.out) k_ hk_),(Kd.freshB (g:=Yq) (by (with_reducible repeat (first|refine Q4 ?_ _|refine Q7 ?_|refine Q2 ?_ _));exact QP.out) k_ hk_)⟩)) (Qh (by repeat (first|(with_reducible first|exact HB.out|apply Q3|apply Q1|apply Q6|refine Q5 ?_ Yc.out|refine Q5 ?_ Yk.out)|exact HB.out))));have n1_:=Q0.mk (Qg (g:=QE) (by (with_reducible repeat (first|refine Q4 ?_ _|refine Q7 ?_|refine Q2 ?_ _));exact Ql.out) hb);have n2_:=Q0.mk (Qg (g:=Yq) (by (with_reducible repeat (first|refine Q4 ?_ _|refine Q7 ?_|refine Q2 ?_ _));exact QP.out) hb);have n3_:=Q0.mk (Qk (by repeat (first|(with_reducible first|exact HB.out|apply Q3|apply Q1|apply Q6|refine Q5 ?_ Yc.out|refine Q5 ?_ Yk.out)|exact HB.out)) hb);clear Ql QP HB;have qf3:=n0_;have Ql:=n1_;have QP:=n2_;have HB:=n3_;clear n0_ n1_ n2_ n3_;(try clear hb);(try clear hb2);(try clear hk);(try clear hi);(try clear ho0);have W8:w38.cell? ⟨QE,0,none⟩=some (.slice QD Qa.length Qu):=(Q9 Ql.out 0).trans rfl;have W9:w38.cell? ⟨QE,1,none⟩=some (.slice QB Qf.length Qv):=(Q9 Ql.out 1).trans rfl;have Wa:w38.cell? ⟨QE,2,none⟩=some (.slice QK Qb.length Qw):=(Q9 Ql.out 2).trans rfl;have Wh:=Q8 Ql.out 0;have Wi:=Q8 Ql.out 1;have Wj:=Q8 Ql.out 2;have UW:0≤(0:Int):=(by omega);have UY:0<(Qb.length:Int):=of_decide_eq_true (by first|(with_reducible assumption)|assumption);obtain ⟨Zb,qmO,qnh,qj0,Jy,UM,UK⟩:=WY Z5.out 0 UW UY;cases qj0;have qrs:(0<Qb.length)=True:=eq_true (by omega);(try rw [show ((0:Int)).toNat=0 from rfl] at Jy);(try rw [Addr.add_zero'] at Jy);replace Jy:=(HB.out.cell (World.block_lt_of_cell? w _ Jy)).trans Jy;have qa0:=Q0.mk UK;have qjM:=Q0.mk UM;clear UK UM;replace UW:=eq_true UW;replace UY:=eq_true UY;have UX:0≤(0:Int):=(by omega);have UZ:0<((Qs Qb 0).length:Int):=of_decide_eq_true (by first|(with_reducible assumption)|assumption);obtain ⟨qp5,qmP,qni,qj1,Jz,UN,UL⟩:=WX qa0.out 0 UX UZ;cases qj1;have qrt:(0<(Qs Qb 0).length)=True:=eq_true (by omega);(try rw [show ((0:Int)).toNat=0 from rfl] at Jz);(try rw [Addr.add_zero'] at Jz);replace Jz:=(HB.out.cell (World.block_lt_of_cell? w _ Jz)).trans Jz;have qjP:=Q0.mk UL;have qjN:=Q0.mk UN;clear UL UN;replace UX:=eq_true UX;replace UZ:=eq_true UZ)))
     (try simp only [Act.put,List.setIfInBounds_toArray,List.set_cons_zero,List.set_cons_succ])
     go_cut [92] (fun v92 wc => ∃ (kq:Nat) (qjy:Bool),v92 = .bool qjy∧Q0 (Qc.j1 kq Zf Yt Z6 Z0 JH YA ZZ Zp ((QC (Qs Qb 0) 0).length:Int) qjy Qa Qf Qb=some r)∧Q0 (kq≤kj5)∧Q0 (Kd.V (Kd.int .i64) 3 wc w.heap.size (fun k_=>k_≠QE∧k_≠Yq) qgO Zp)∧Q0 (wc.heap[QE]? = some (.cells #[(.slice QD Qa.length Qu),(.slice QB Qf.length Qv),(.slice (some Zb) Qb.length Qw)] 47 (0,0)))∧Q0 (wc.heap[Yq]? = some (.cells #[.int .i64 Jb,.int .i64 J8] 23 (0,0)))∧Q0 (Below w.heap.size w wc))
     case first =>
      have H:=qlq.out;clear qlq
      by_cases c40:qeb=0
      ·
       as_aux_lemma =>
       rw [if_pos c40] at H;have c40b0:(qeb==0)=true:=beq_iff_eq.mpr c40;have c40b1:(qeb != 0)=false:=bne_eq_false_iff_eq.mpr c40;clear c40
       (first|rw [c40b0]|(simp only [QL,QO];rw [c40b0])|skip)
       have H':=Q0.mk H;clear H;obtain ⟨qKy,qKB,qHt⟩:=Kd.V_slice qf3.out;subst qHt
       go_wp2
       repeat (go_quiet (fail);try go_wp2)
       go_meet
       case rel=>exact ⟨_,(((Zp.length:Int) != ((QC (Qs Qb 0) 0).length:Int))),(by first|rfl|(simp;done)|(simp [*];done)),H',⟨by have:=HJ5.out;first|omega|exact Nat.le_refl _⟩,⟨by (with_reducible repeat (first|apply Kd.V_alloc|apply Kd.V_drewN|apply Kd.V_drew));exact qf3.out⟩,⟨by (with_reducible repeat (first|refine Q4 ?_ _|refine Q7 ?_|refine Q2 ?_ _));exact Ql.out⟩,⟨by (with_reducible repeat (first|refine Q4 ?_ _|refine Q7 ?_|refine Q2 ?_ _));exact QP.out⟩,⟨by repeat (first|(with_reducible first|exact HB.out|apply Q3|apply Q1|apply Q6|refine Q5 ?_ Yc.out|refine Q5 ?_ Yk.out)|exact HB.out)⟩⟩
      rw [if_neg c40] at H;have c40b0:(qeb==0)=false:=beq_eq_false_iff_ne.mpr c40;have c40b1:(qeb != 0)=true:=bne_iff_ne.mpr c40
      (first|rw [c40b0]|(simp only [QL,QO];rw [c40b0])|skip)
      have H':=Q0.mk H;clear H
      go_wp2
      repeat (go_quiet (fail);try go_wp2)
      go_meet
      case rel=>exact ⟨_,(true),(by first|rfl|(simp;done)|(simp [*];done)),H',⟨by have:=HJ5.out;first|omega|exact Nat.le_refl _⟩,⟨by (with_reducible repeat (first|apply Kd.V_alloc|apply Kd.V_drewN|apply Kd.V_drew));exact qf3.out⟩,⟨by (with_reducible repeat (first|refine Q4 ?_ _|refine Q7 ?_|refine Q2 ?_ _));exact Ql.out⟩,⟨by (with_reducible repeat (first|refine Q4 ?_ _|refine Q7 ?_|refine Q2 ?_ _));exact QP.out⟩,⟨by repeat (first|(with_reducible first|exact HB.out|apply Q3|apply Q1|apply Q6|refine Q5 ?_ Yc.out|refine Q5 ?_ Yk.out)|exact HB.out)⟩⟩
     case rest =>
      clear qlq;(try clear c1);(try clear p1);(try clear q1);(try clear hx1);(try clear qi1);(try clear c2);(try clear p2);(try clear c3);(try clear c4);(try clear c9);(try clear c10);(try clear p10);(try clear q10);(try clear qlR);(try clear quj);(try clear c12);(try clear c12b0);(try clear c12b1);(try clear c14);(try clear c15);(try clear c17);(try clear c17b0);(try clear c17b1);(try clear c19);(try clear c22);(try clear c23);(try clear c23b0);(try clear c23b1);(try clear c24);(try clear c24b0);(try clear c24b1);(try clear c25);(try clear c25b0);(try clear c25b1);(try clear c26);(try clear c26b0);(try clear c26b1);(try clear c32);(try clear c32b0);(try clear c32b1);(try clear c33);(try clear c33b0);(try clear c33b1);(try clear c35);(try clear c40);(try clear c40b0);(try clear c40b1);(try clear ZS);(try clear ZT);(try clear ZX);(try clear JO);(try clear JP);(try clear JX);(try clear Oe);(try clear Of);(try clear Og);(try clear qbK);(try clear qbL);(try clear XY);(try clear XZ);(try clear qaa);(try clear W8);(try clear W9);(try clear Wa);(try clear ZU);(try clear ZV);(try clear ZY);(try clear JQ);(try clear JU);(try clear JY);(try clear Oh);(try clear Oi);(try clear Oj);(try clear qbP);(try clear qbQ);(try clear qam);(try clear qan);(try clear qao);(try clear Wh);(try clear Wi);(try clear Wj);(try clear Jy);(try clear Jz);(try clear UW);(try clear UX);(try clear p2);(try clear UY);(try clear UZ);obtain ⟨kq,qjy,rfl,HA,W4,HO_13,Ql,QP,HB⟩:=hcut
      cases kq with
      | zero=>exact absurd HA.out (by simp [Qc.j1])
      | succ XJ =>
       have H:=HA.out;clear HA;simp only [Qc.j1] at H
       by_cases c42:qjy=true
       ·
        subst c42
        have H1:(some false)=some r:=by rw [if_pos rfl] at H;exact H
        clear H;have H:=H1;clear H1;obtain rfl:=Option.some.inj H
        go_wp2
        repeat (go_quiet (fail);try go_wp2)
        go_ret
        exact ⟨by first|rfl|(simp [Qz,QA]<;>rfl)|(simp [*,Qz,QA]<;>rfl),by repeat (first|(with_reducible first|exact HB.out|apply Q3|apply Q1|apply Q6|refine Q5 ?_ Yc.out|refine Q5 ?_ Yk.out)|exact HB.out)⟩
       as_aux_lemma =>
       replace c42:=Bool.eq_false_iff.mpr c42;subst c42
       have H1:(if JH=4 then (Qc.j3 XJ Yt Z6 ((QC (Qs Qb 0) 0).length:Int) YA ZZ Zp ((QC (Qs Qb 0) 0).length:Int) Qa Qf Qb) else ((Qn.f Yt 0 (wrap64 ((Qa.length:Int)-1))).bind fun qht=>(if qht=true then ((Qn.f Z6 0 (wrap64 ((Qb.length:Int)-1))).bind fun qci=>(if qci=true then ((Qn.f Z0 0 (wrap64 (((QC (Qs Qb 0) 0).length:Int)-1))).bind fun qec=>(Qc.j2 XJ Zf Yt Z6 Z0 YA ZZ Zp ((QC (Qs Qb 0) 0).length:Int) (!qec) Qa Qf Qb)) else (Qc.j2 XJ Zf Yt Z6 Z0 YA ZZ Zp ((QC (Qs Qb 0) 0).length:Int) true Qa Qf Qb))) else (Qc.j2 XJ Zf Yt Z6 Z0 YA ZZ Zp ((QC (Qs Qb 0) 0).length:Int) true Qa Qf Qb))))=some r:=by rw [if_neg (show ¬ (false=true) by decide)] at H;exact H
       clear H;have H:=H1;clear H1;have qvQ:=Q0.mk H;clear H
       go_upto_if 94 with (fail)
       repeat (go_quiet (fail);go_upto_if 94 with (fail))
       go_cut [9] (fun v9 wc => ∃ (kq:Nat) (WS:Int),v9 = .int .i64 WS∧Q0 (Qc.j3 kq Yt Z6 WS YA ZZ Zp ((QC (Qs Qb 0) 0).length:Int) Qa Qf Qb=some r)∧Q0 (kq≤XJ)∧Q0 (Kd.V (Kd.int .i64) 3 wc w.heap.size (fun k_=>k_≠QE∧k_≠Yq) qgO Zp)∧Q0 (wc.heap[QE]? = some (.cells #[(.slice QD Qa.length Qu),(.slice QB Qf.length Qv),(.slice (some Zb) Qb.length Qw)] 47 (0,0)))∧Q0 (wc.heap[Yq]? = some (.cells #[.int .i64 Jb,.int .i64 J8] 23 (0,0)))∧Q0 (Below w.heap.size w wc))
       case first =>
        have H:=qvQ.out;clear qvQ
        by_cases c44:JH=4
        ·
         rw [if_pos c44] at H;have c44b0:(JH==4)=true:=beq_iff_eq.mpr c44;have c44b1:(JH != 4)=false:=bne_eq_false_iff_eq.mpr c44;clear c44
         (first|rw [c44b0]|(simp only [QL,QO];rw [c44b0])|skip)
         have H':=Q0.mk H;clear H
         go_wp2
         repeat (go_quiet (fail);try go_wp2)
         go_meet
         case rel=>exact ⟨_,(((QC (Qs Qb 0) 0).length:Int)),(by first|rfl|(simp;done)|(simp [*];done)),H',⟨by have:=HJ5.out;have:=W4.out;first|omega|exact Nat.le_refl _⟩,⟨by (with_reducible repeat (first|apply Kd.V_alloc|apply Kd.V_drewN|apply Kd.V_drew));exact HO_13.out⟩,⟨by (with_reducible repeat (first|refine Q4 ?_ _|refine Q7 ?_|refine Q2 ?_ _));exact Ql.out⟩,⟨by (with_reducible repeat (first|refine Q4 ?_ _|refine Q7 ?_|refine Q2 ?_ _));exact QP.out⟩,⟨by repeat (first|(with_reducible first|exact HB.out|apply Q3|apply Q1|apply Q6|refine Q5 ?_ Yc.out|refine Q5 ?_ Yk.out)|exact HB.out)⟩⟩
        as_aux_lemma =>
        rw [if_neg c44] at H;have c44b0:(JH==4)=false:=beq_eq_false_iff_ne.mpr c44;have c44b1:(JH != 4)=true:=bne_iff_ne.mpr c44
        (first|rw [c44b0]|(simp only [QL,QO];rw [c44b0])|skip)
        have qvR:=Q0.mk H;clear H
        go_upto_region 12 with (fail)
        repeat (go_quiet (fail);go_upto_region 12 with (fail))
        go_cut [118] (fun qIf wc => ∃ (kq:Nat) (qfW:Bool),qIf = .bool qfW∧Q0 (Qc.j2 kq Zf Yt Z6 Z0 YA ZZ Zp ((QC (Qs Qb 0) 0).length:Int) qfW Qa Qf Qb=some r)∧Q0 (kq≤XJ)∧Q0 (Kd.V (Kd.int .i64) 3 wc w.heap.size (fun k_=>k_≠QE∧k_≠Yq) qgO Zp)∧Q0 (wc.heap[QE]? = some (.cells #[(.slice QD Qa.length Qu),(.slice QB Qf.length Qv),(.slice (some Zb) Qb.length Qw)] 47 (0,0)))∧Q0 (wc.heap[Yq]? = some (.cells #[.int .i64 Jb,.int .i64 J8] 23 (0,0)))∧Q0 (Below w.heap.size w wc))
        case first =>
         have H:=qvR.out;clear qvR;replace H:=Option.bind_eq_some_iff.mp H;obtain ⟨qht,qxy,H⟩:=H;replace H:(if qht=true then ((Qn.f Z6 0 (wrap64 ((Qb.length:Int)-1))).bind fun qci=>(if qci=true then ((Qn.f Z0 0 (wrap64 (((QC (Qs Qb 0) 0).length:Int)-1))).bind fun qec=>(Qc.j2 XJ Zf Yt Z6 Z0 YA ZZ Zp ((QC (Qs Qb 0) 0).length:Int) (!qec) Qa Qf Qb)) else (Qc.j2 XJ Zf Yt Z6 Z0 YA ZZ Zp ((QC (Qs Qb 0) 0).length:Int) true Qa Qf Qb))) else (Qc.j2 XJ Zf Yt Z6 Z0 YA ZZ Zp ((QC (Qs Qb 0) 0).length:Int) true Qa Qf Qb))=some r:=H;have A46:=Q0.mk qxy;clear qxy
         by_cases c47:qht=true
         ·
          as_aux_lemma =>
          subst c47
          have H1:((Qn.f Z6 0 (wrap64 ((Qb.length:Int)-1))).bind fun qci=>(if qci=true then ((Qn.f Z0 0 (wrap64 (((QC (Qs Qb 0) 0).length:Int)-1))).bind fun qec=>(Qc.j2 XJ Zf Yt Z6 Z0 YA ZZ Zp ((QC (Qs Qb 0) 0).length:Int) (!qec) Qa Qf Qb)) else (Qc.j2 XJ Zf Yt Z6 Z0 YA ZZ Zp ((QC (Qs Qb 0) 0).length:Int) true Qa Qf Qb)))=some r:=by rw [if_pos rfl] at H;exact H
          clear H;have H:=H1;clear H1;replace H:=Option.bind_eq_some_iff.mp H;obtain ⟨qci,qxz,H⟩:=H;replace H:(if qci=true then ((Qn.f Z0 0 (wrap64 (((QC (Qs Qb 0) 0).length:Int)-1))).bind fun qec=>(Qc.j2 XJ Zf Yt Z6 Z0 YA ZZ Zp ((QC (Qs Qb 0) 0).length:Int) (!qec) Qa Qf Qb)) else (Qc.j2 XJ Zf Yt Z6 Z0 YA ZZ Zp ((QC (Qs Qb 0) 0).length:Int) true Qa Qf Qb))=some r:=H;have A48:=Q0.mk qxz;clear qxz
          by_cases c49:qci=true
          ·
           as_aux_lemma =>
           subst c49
           have H1:((Qn.f Z0 0 (wrap64 (((QC (Qs Qb 0) 0).length:Int)-1))).bind fun qec=>(Qc.j2 XJ Zf Yt Z6 Z0 YA ZZ Zp ((QC (Qs Qb 0) 0).length:Int) (!qec) Qa Qf Qb))=some r:=by rw [if_pos rfl] at H;exact H
           clear H;have H:=H1;clear H1;replace H:=Option.bind_eq_some_iff.mp H;obtain ⟨qec,qxB,H⟩:=H;replace H:(Qc.j2 XJ Zf Yt Z6 Z0 YA ZZ Zp ((QC (Qs Qb 0) 0).length:Int) (!qec) Qa Qf Qb)=some r:=H;have A50:=Q0.mk qxB;clear qxB;have H':=Q0.mk H;clear H;have qAp:=Zr.out;have qAJ:=Zs.out;have qc9:wc.cell? ⟨QE,0,none⟩=some (.slice QD Qa.length Qu):=(Q9 Ql.out 0).trans rfl;have qda:wc.cell? ⟨QE,1,none⟩=some (.slice QB Qf.length Qv):=(Q9 Ql.out 1).trans rfl;have qdb:wc.cell? ⟨QE,2,none⟩=some (.slice (some Zb) Qb.length Qw):=(Q9 Ql.out 2).trans rfl;have qdl:=Q8 Ql.out 0;have qdm:=Q8 Ql.out 1;have qdn:=Q8 Ql.out 2
           go_wp2_with (first|(go_at_call 34;(with_reducible refine (Qn.calls Yt 0 (wrap64 ((Qa.length:Int)-1)) true _ A46.out).mono ?_);rintro e w' ⟨rfl,⟨nd,rfl⟩⟩;(try first|exact ⟨rfl,_,World.drewN_drewN _ _ _⟩|exact ⟨rfl,_,Eq.trans (World.drewN_drewN _ _ _) (congrArg (World.drewN _) (Nat.add_assoc _ _ _))⟩))|(go_at_call 34;(with_reducible refine (Qn.calls Z6 0 (wrap64 ((Qb.length:Int)-1)) true _ A48.out).mono ?_);rintro e w' ⟨rfl,⟨nd,rfl⟩⟩;(try first|exact ⟨rfl,_,World.drewN_drewN _ _ _⟩|exact ⟨rfl,_,Eq.trans (World.drewN_drewN _ _ _) (congrArg (World.drewN _) (Nat.add_assoc _ _ _))⟩))|(go_at_call 34;(with_reducible refine (Qn.calls Z0 0 (wrap64 (((QC (Qs Qb 0) 0).length:Int)-1)) qec _ A50.out).mono ?_);rintro e w' ⟨rfl,⟨nd,rfl⟩⟩;(try first|exact ⟨rfl,_,World.drewN_drewN _ _ _⟩|exact ⟨rfl,_,Eq.trans (World.drewN_drewN _ _ _) (congrArg (World.drewN _) (Nat.add_assoc _ _ _))⟩)))
           repeat (go_quiet (first|(go_at_call 34;(with_reducible refine (Qn.calls Yt 0 (wrap64 ((Qa.length:Int)-1)) true _ A46.out).mono ?_);rintro e w' ⟨rfl,⟨nd,rfl⟩⟩;(try first|exact ⟨rfl,_,World.drewN_drewN _ _ _⟩|exact ⟨rfl,_,Eq.trans (World.drewN_drewN _ _ _) (congrArg (World.drewN _) (Nat.add_assoc _ _ _))⟩))|(go_at_call 34;(with_reducible refine (Qn.calls Z6 0 (wrap64 ((Qb.length:Int)-1)) true _ A48.out).mono ?_);rintro e w' ⟨rfl,⟨nd,rfl⟩⟩;(try first|exact ⟨rfl,_,World.drewN_drewN _ _ _⟩|exact ⟨rfl,_,Eq.trans (World.drewN_drewN _ _ _) (congrArg (World.drewN _) (Nat.add_assoc _ _ _))⟩))|(go_at_call 34;(with_reducible refine (Qn.calls Z0 0 (wrap64 (((QC (Qs Qb 0) 0).length:Int)-1)) qec _ A50.out).mono ?_);rintro e w' ⟨rfl,⟨nd,rfl⟩⟩;(try first|exact ⟨rfl,_,World.drewN_drewN _ _ _⟩|exact ⟨rfl,_,Eq.trans (World.drewN_drewN _ _ _) (congrArg (World.drewN _) (Nat.add_assoc _ _ _))⟩)));try go_wp2_with (first|(go_at_call 34;(with_reducible refine (Qn.calls Yt 0 (wrap64 ((Qa.length:Int)-1)) true _ A46.out).mono ?_);rintro e w' ⟨rfl,⟨nd,rfl⟩⟩;(try first|exact ⟨rfl,_,World.drewN_drewN _ _ _⟩|exact ⟨rfl,_,Eq.trans (World.drewN_drewN _ _ _) (congrArg (World.drewN _) (Nat.add_assoc _ _ _))⟩))|(go_at_call 34;(with_reducible refine (Qn.calls Z6 0 (wrap64 ((Qb.length:Int)-1)) true _ A48.out).mono ?_);rintro e w' ⟨rfl,⟨nd,rfl⟩⟩;(try first|exact ⟨rfl,_,World.drewN_drewN _ _ _⟩|exact ⟨rfl,_,Eq.trans (World.drewN_drewN _ _ _) (congrArg (World.drewN _) (Nat.add_assoc _ _ _))⟩))|(go_at_call 34;(with_reducible refine (Qn.calls Z0 0 (wrap64 (((QC (Qs Qb 0) 0).length:Int)-1)) qec _ A50.out).mono ?_);rintro e w' ⟨rfl,⟨nd,rfl⟩⟩;(try first|exact ⟨rfl,_,World.drewN_drewN _ _ _⟩|exact ⟨rfl,_,Eq.trans (World.drewN_drewN _ _ _) (congrArg (World.drewN _) (Nat.add_assoc _ _ _))⟩))))
           go_meet
           case rel=>exact ⟨_,(!qec),(by first|rfl|(simp;done)|(simp [*];done)),H',⟨by have:=HJ5.out;have:=W4.out;first|omega|exact Nat.le_refl _⟩,⟨by (with_reducible repeat (first|apply Kd.V_alloc|apply Kd.V_drewN|apply Kd.V_drew));exact HO_13.out⟩,⟨by (with_reducible repeat (first|refine Q4 ?_ _|refine Q7 ?_|refine Q2 ?_ _));exact Ql.out⟩,⟨by (with_reducible repeat (first|refine Q4 ?_ _|refine Q7 ?_|refine Q2 ?_ _));exact QP.out⟩,⟨by repeat (first|(with_reducible first|exact HB.out|apply Q3|apply Q1|apply Q6|refine Q5 ?_ Yc.out|refine Q5 ?_ Yk.out)|exact HB.out)⟩⟩
          as_aux_lemma =>
          replace c49:=Bool.eq_false_iff.mpr c49;subst c49
          have H1:(Qc.j2 XJ Zf Yt Z6 Z0 YA ZZ Zp ((QC (Qs Qb 0) 0).length:Int) true Qa Qf Qb)=some r:=by rw [if_neg (show ¬ (false=true) by decide)] at H;exact H
          clear H;have H:=H1;clear H1;have H':=Q0.mk H;clear H;have qAq:=Zr.out;have qAK:=Zs.out;have qe2:wc.cell? ⟨QE,0,none⟩=some (.slice QD Qa.length Qu):=(Q9 Ql.out 0).trans rfl;have qe3:wc.cell? ⟨QE,1,none⟩=some (.slice QB Qf.length Qv):=(Q9 Ql.out 1).trans rfl;have qe4:wc.cell? ⟨QE,2,none⟩=some (.slice (some Zb) Qb.length Qw):=(Q9 Ql.out 2).trans rfl;have qfm:=Q8 Ql.out 0;have qfn:=Q8 Ql.out 1;have qfo:=Q8 Ql.out 2
          go_wp2_with (first|(go_at_call 34;(with_reducible refine (Qn.calls Yt 0 (wrap64 ((Qa.length:Int)-1)) true _ A46.out).mono ?_);rintro e w' ⟨rfl,⟨nd,rfl⟩⟩;(try first|exact ⟨rfl,_,World.drewN_drewN _ _ _⟩|exact ⟨rfl,_,Eq.trans (World.drewN_drewN _ _ _) (congrArg (World.drewN _) (Nat.add_assoc _ _ _))⟩))|(go_at_call 34;(with_reducible refine (Qn.calls Z6 0 (wrap64 ((Qb.length:Int)-1)) false _ A48.out).mono ?_);rintro e w' ⟨rfl,⟨nd,rfl⟩⟩;(try first|exact ⟨rfl,_,World.drewN_drewN _ _ _⟩|exact ⟨rfl,_,Eq.trans (World.drewN_drewN _ _ _) (congrArg (World.drewN _) (Nat.add_assoc _ _ _))⟩)))
          repeat (go_quiet (first|(go_at_call 34;(with_reducible refine (Qn.calls Yt 0 (wrap64 ((Qa.length:Int)-1)) true _ A46.out).mono ?_);rintro e w' ⟨rfl,⟨nd,rfl⟩⟩;(try first|exact ⟨rfl,_,World.drewN_drewN _ _ _⟩|exact ⟨rfl,_,Eq.trans (World.drewN_drewN _ _ _) (congrArg (World.drewN _) (Nat.add_assoc _ _ _))⟩))|(go_at_call 34;(with_reducible refine (Qn.calls Z6 0 (wrap64 ((Qb.length:Int)-1)) false _ A48.out).mono ?_);rintro e w' ⟨rfl,⟨nd,rfl⟩⟩;(try first|exact ⟨rfl,_,World.drewN_drewN _ _ _⟩|exact ⟨rfl,_,Eq.trans (World.drewN_drewN _ _ _) (congrArg (World.drewN _) (Nat.add_assoc _ _ _))⟩)));try go_wp2_with (first|(go_at_call 34;(with_reducible refine (Qn.calls Yt 0 (wrap64 ((Qa.length:Int)-1)) true _ A46.out).mono ?_);rintro e w' ⟨rfl,⟨nd,rfl⟩⟩;(try first|exact ⟨rfl,_,World.drewN_drewN _ _ _⟩|exact ⟨rfl,_,Eq.trans (World.drewN_drewN _ _ _) (congrArg (World.drewN _) (Nat.add_assoc _ _ _))⟩))|(go_at_call 34;(with_reducible refine (Qn.calls Z6 0 (wrap64 ((Qb.length:Int)-1)) false _ A48.out).mono ?_);rintro e w' ⟨rfl,⟨nd,rfl⟩⟩;(try first|exact ⟨rfl,_,World.drewN_drewN _ _ _⟩|exact ⟨rfl,_,Eq.trans (World.drewN_drewN _ _ _) (congrArg (World.drewN _) (Nat.add_assoc _ _ _))⟩))))
          go_meet
          case rel=>exact ⟨_,(true),(by first|rfl|(simp;done)|(simp [*];done)),H',⟨by have:=HJ5.out;have:=W4.out;first|omega|exact Nat.le_refl _⟩,⟨by (with_reducible repeat (first|apply Kd.V_alloc|apply Kd.V_drewN|apply Kd.V_drew));exact HO_13.out⟩,⟨by (with_reducible repeat (first|refine Q4 ?_ _|refine Q7 ?_|refine Q2 ?_ _));exact Ql.out⟩,⟨by (with_reducible repeat (first|refine Q4 ?_ _|refine Q7 ?_|refine Q2 ?_ _));exact QP.out⟩,⟨by repeat (first|(with_reducible first|exact HB.out|apply Q3|apply Q1|apply Q6|refine Q5 ?_ Yc.out|refine Q5 ?_ Yk.out)|exact HB.out)⟩⟩
         as_aux_lemma =>
         replace c47:=Bool.eq_false_iff.mpr c47;subst c47
         have H1:(Qc.j2 XJ Zf Yt Z6 Z0 YA ZZ Zp ((QC (Qs Qb 0) 0).length:Int) true Qa Qf Qb)=some r:=by rw [if_neg (show ¬ (false=true) by decide)] at H;exact H
         clear H;have H:=H1;clear H1;have H':=Q0.mk H;clear H;have qJB:=Zr.out;have qJ9:=Zs.out;have qe5:wc.cell? ⟨QE,0,none⟩=some (.slice QD Qa.length Qu):=(Q9 Ql.out 0).trans rfl;have qe6:wc.cell? ⟨QE,1,none⟩=some (.slice QB Qf.length Qv):=(Q9 Ql.out 1).trans rfl;have qe7:wc.cell? ⟨QE,2,none⟩=some (.slice (some Zb) Qb.length Qw):=(Q9 Ql.out 2).trans rfl;have qfp:=Q8 Ql.out 0;have qfq:=Q8 Ql.out 1;have qfr:=Q8 Ql.out 2
         go_wp2_with (first|(go_at_call 34;(with_reducible refine (Qn.calls Yt 0 (wrap64 ((Qa.length:Int)-1)) false _ A46.out).mono ?_);rintro e w' ⟨rfl,⟨nd,rfl⟩⟩;(try first|exact ⟨rfl,_,World.drewN_drewN _ _ _⟩|exact ⟨rfl,_,Eq.trans (World.drewN_drewN _ _ _) (congrArg (World.drewN _) (Nat.add_assoc _ _ _))⟩)))
         repeat (go_quiet (first|(go_at_call 34;(with_reducible refine (Qn.calls Yt 0 (wrap64 ((Qa.length:Int)-1)) false _ A46.out).mono ?_);rintro e w' ⟨rfl,⟨nd,rfl⟩⟩;(try first|exact ⟨rfl,_,World.drewN_drewN _ _ _⟩|exact ⟨rfl,_,Eq.trans (World.drewN_drewN _ _ _) (congrArg (World.drewN _) (Nat.add_assoc _ _ _))⟩)));try go_wp2_with (first|(go_at_call 34;(with_reducible refine (Qn.calls Yt 0 (wrap64 ((Qa.length:Int)-1)) false _ A46.out).mono ?_);rintro e w' ⟨rfl,⟨nd,rfl⟩⟩;(try first|exact ⟨rfl,_,World.drewN_drewN _ _ _⟩|exact ⟨rfl,_,Eq.trans (World.drewN_drewN _ _ _) (congrArg (World.drewN _) (Nat.add_assoc _ _ _))⟩))))
         go_meet
         case rel=>exact ⟨_,(true),(by first|rfl|(simp;done)|(simp [*];done)),H',⟨by have:=HJ5.out;have:=W4.out;first|omega|exact Nat.le_refl _⟩,⟨by (with_reducible repeat (first|apply Kd.V_alloc|apply Kd.V_drewN|apply Kd.V_drew));exact HO_13.out⟩,⟨by (with_reducible repeat (first|refine Q4 ?_ _|refine Q7 ?_|refine Q2 ?_ _));exact Ql.out⟩,⟨by (with_reducible repeat (first|refine Q4 ?_ _|refine Q7 ?_|refine Q2 ?_ _));exact QP.out⟩,⟨by repeat (first|(with_reducible first|exact HB.out|apply Q3|apply Q1|apply Q6|refine Q5 ?_ Yc.out|refine Q5 ?_ Yk.out)|exact HB.out)⟩⟩
        case rest =>
         clear qvR;(try clear c1);(try clear p1);(try clear q1);(try clear hx1);(try clear qi1);(try clear c2);(try clear p2);(try clear c3);(try clear c4);(try clear c5);(try clear p6);(try clear c9);(try clear c10);(try clear p10);(try clear q10);(try clear qlR);(try clear quj);(try clear c12);(try clear c12b0);(try clear c12b1);(try clear c14);(try clear c15);(try clear c17);(try clear c17b0);(try clear c17b1);(try clear c19);(try clear c22);(try clear c23);(try clear c23b0);(try clear c23b1);(try clear c24);(try clear c24b0);(try clear c24b1);(try clear c25);(try clear c25b0);(try clear c25b1);(try clear c26);(try clear c26b0);(try clear c26b1);(try clear c32);(try clear c32b0);(try clear c32b1);(try clear c33);(try clear c33b0);(try clear c33b1);(try clear c35);(try clear c40);(try clear c40b0);(try clear c40b1);(try clear c42);(try clear c44);(try clear c44b0);(try clear c44b1);(try clear c47);(try clear c49);(try clear c51);(try clear c53);(try clear c55);(try clear ZS);(try clear ZT);(try clear ZX);(try clear JO);(try clear JP);(try clear JX);(try clear Oe);(try clear Of);(try clear Og);(try clear qbK);(try clear qbL);(try clear XY);(try clear XZ);(try clear qaa);(try clear W8);(try clear W9);(try clear Wa);(try clear qc9);(try clear qda);(try clear qdb);(try clear qe2);(try clear qe3);(try clear qe4);(try clear qe5);(try clear qe6);(try clear qe7);(try clear ZU);(try clear ZV);(try clear ZY);(try clear JQ);(try clear JU);(try clear JY);(try clear Oh);(try clear Oi);(try clear Oj);(try clear qbP);(try clear qbQ);(try clear qam);(try clear qan);(try clear qao);(try clear Wh);(try clear Wi);(try clear Wj);(try clear qdl);(try clear qdm);(try clear qdn);(try clear qfm);(try clear qfn);(try clear qfo);(try clear qfp);(try clear qfq);(try clear qfr);(try clear Jy);(try clear Jz);(try clear p1);(try clear p10);(try clear UW);(try clear UX);(try clear p2);(try clear q1);(try clear q10);(try clear UY);(try clear UZ);obtain ⟨kq,qfW,rfl,HA,qGL,HO_13,Ql,QP,HB⟩:=hcut
         cases kq with
         | zero=>exact absurd HA.out (by simp [Qc.j2])
         | succ qcv =>
          have H:=HA.out;clear HA;simp only [Qc.j2] at H
          by_cases c57:qfW=true
          ·
           subst c57
           have H1:(some false)=some r:=by rw [if_pos rfl] at H;exact H
           clear H;have H:=H1;clear H1;obtain rfl:=Option.some.inj H
           go_wp2
           repeat (go_quiet (fail);try go_wp2)
           go_ret
           exact ⟨by first|rfl|(simp [Qz,QA]<;>rfl)|(simp [*,Qz,QA]<;>rfl),by repeat (first|(with_reducible first|exact HB.out|apply Q3|apply Q1|apply Q6|refine Q5 ?_ Yc.out|refine Q5 ?_ Yk.out)|exact HB.out)⟩
          as_aux_lemma =>
          replace c57:=Bool.eq_false_iff.mpr c57;subst c57
          have H1:((Qt.f qcv Qa Qf Qb Yt Z6 Zf ([]:List Int)).bind fun OP=>(if OP.2=0 then (if (OP.1.length:Int)=((QC (Qs Qb 0) 0).length:Int) then (if 0≤Z0 then (if Z0<(OP.1.length:Int) then (if 0≤Yt then (if Yt<(Qa.length:Int) then (if (rd OP.1 Z0)≥((Qe Qa Yt).f3) then (some false) else (Qc.j3 qcv Yt Z6 Z0 YA ZZ Zp ((QC (Qs Qb 0) 0).length:Int) Qa Qf Qb)) else (none)) else (none)) else (none)) else (none)) else (some false)) else (some false)))=some r:=by rw [if_neg (show ¬ (false=true) by decide)] at H;exact H
          clear H;have H:=H1;clear H1;replace H:=Option.bind_eq_some_iff.mp H;obtain ⟨⟨GF,U8⟩,qxD,H⟩:=H;replace H:(if U8=0 then (if (GF.length:Int)=((QC (Qs Qb 0) 0).length:Int) then (if 0≤Z0 then (if Z0<(GF.length:Int) then (if 0≤Yt then (if Yt<(Qa.length:Int) then (if (rd GF Z0)≥((Qe Qa Yt).f3) then (some false) else (Qc.j3 qcv Yt Z6 Z0 YA ZZ Zp ((QC (Qs Qb 0) 0).length:Int) Qa Qf Qb)) else (none)) else (none)) else (none)) else (none)) else (some false)) else (some false))=some r:=H;have A58:=Q0.mk qxD;clear qxD
          by_cases c59:U8=0
          ·
           as_aux_lemma =>
           rw [if_pos c59] at H;have c59b0:(U8==0)=true:=beq_iff_eq.mpr c59;have c59b1:(U8 != 0)=false:=bne_eq_false_iff_eq.mpr c59;clear c59
           by_cases c60:(GF.length:Int)=((QC (Qs Qb 0) 0).length:Int)
           ·
            as_aux_lemma =>
            rw [if_pos c60] at H;have c60b0:((GF.length:Int)==((QC (Qs Qb 0) 0).length:Int))=true:=beq_iff_eq.mpr c60;have c60b1:((GF.length:Int) != ((QC (Qs Qb 0) 0).length:Int))=false:=bne_eq_false_iff_eq.mpr c60
            have c60b2:(GF.length==(QC (Qs Qb 0) 0).length)=true:=by first|simpa using c60|(simp at c60 ⊢;omega)
            clear c60
            by_cases c61:0≤Z0
            ·
             as_aux_lemma =>
             rw [if_pos c61] at H;have c61b0:decide (0≤Z0)=true:=decide_eq_true c61;clear c61
             by_cases c62:Z0<(GF.length:Int)
             ·
              as_aux_lemma =>
              rw [if_pos c62] at H;have c62b0:decide (Z0<(GF.length:Int))=true:=decide_eq_true c62;clear c62
              by_cases c63:0≤Yt
              ·
               as_aux_lemma =>
               rw [if_pos c63] at H;have c63b0:decide (0≤Yt)=true:=decide_eq_true c63;clear c63
               by_cases c64:Yt<(Qa.length:Int)
               ·
                as_aux_lemma =>
                rw [if_pos c64] at H;have c64b0:decide (Yt<(Qa.length:Int))=true:=decide_eq_true c64;clear c64
                by_cases c65:(rd GF Z0)≥((Qe Qa Yt).f3)
                ·
                 as_aux_lemma =>
                 rw [if_pos c65] at H;have c65b0:decide (((Qe Qa Yt).f3)≤(rd GF Z0))=true:=decide_eq_true c65;clear c65;obtain rfl:=Option.some.inj H;have qAu:=Zr.out;have qAO:=Zs.out;have qe8:wc.cell? ⟨QE,0,none⟩=some (.slice QD Qa.length Qu):=(Q9 Ql.out 0).trans rfl;have qe9:wc.cell? ⟨QE,1,none⟩=some (.slice QB Qf.length Qv):=(Q9 Ql.out 1).trans rfl;have qfa:wc.cell? ⟨QE,2,none⟩=some (.slice (some Zb) Qb.length Qw):=(Q9 Ql.out 2).trans rfl;have qfs:=Q8 Ql.out 0;have qft:=Q8 Ql.out 1;have qfu:=Q8 Ql.out 2
                 go_wp2_with (first|(go_at_call 52;(refine (Qt.calls qcv _ _ Qa _ _ Qf _ _ Qb Yt Z6 Zf _ _ ([]:List Int) GF U8 _ ?side1 ?side2 ?side3 ?side4 ?side5 ?side6 ?side7 ?side8 A58.out).mono ?_);(case side1=>repeat (first|exact (Kd.C_below YV.out HB.out)|(with_reducible refine Kd.C_alloc ?_ _)|(with_reducible refine Kd.C_drewN ?_ _)|(with_reducible refine Kd.C_drew ?_)));(case side2=>exact ZA.out);(case side3=>repeat (first|exact (Kd.C_below Zj.out HB.out)|(with_reducible refine Kd.C_alloc ?_ _)|(with_reducible refine Kd.C_drewN ?_ _)|(with_reducible refine Kd.C_drew ?_)));(case side4=>exact ZB.out);(case side5=>repeat (first|exact (Kd.C_below Z5.out HB.out)|(with_reducible refine Kd.C_alloc ?_ _)|(with_reducible refine Kd.C_drewN ?_ _)|(with_reducible refine Kd.C_drew ?_)));(case side6=>exact ZC.out);(case side7=>exact Kd.C_nil _ _);(case side8=>exact Nat.le_refl _);rintro e w68 ⟨qbx,rfl,ho0,hb⟩;have n0_:=Q0.mk (Kd.V_below (by (with_reducible repeat (first|apply Kd.V_alloc|apply Kd.V_drewN|apply Kd.V_drew));exact HO_13.out) hb);have n1_:=Q0.mk (Kd.V_lower (Kd.V_mono (ok':=fun k_=>k_≠QE∧k_≠Yq) ho0 (fun k_ hk_=>⟨(Kd.freshB (g:=QE) (by (with_reducible repeat (first|refine Q4 ?_ _|refine Q7 ?_|refine Q2 ?_ _));exact Ql.out) k_ hk_),(Kd.freshB (g:=Yq) (by (with_reducible repeat (first|refine Q4 ?_ _|refine Q7 ?_|refine Q2 ?_ _));exact QP.out) k_ hk_)⟩)) (Qh (by repeat (first|(with_reducible first|exact HB.out|apply Q3|apply Q1|apply Q6|refine Q5 ?_ Yc.out|refine Q5 ?_ Yk.out)|exact HB.out))));have n2_:=Q0.mk (Qg (g:=QE) (by (with_reducible repeat (first|refine Q4 ?_ _|refine Q7 ?_|refine Q2 ?_ _));exact Ql.out) hb);have n3_:=Q0.mk (Qg (g:=Yq) (by (with_reducible repeat (first|refine Q4 ?_ _|refine Q7 ?_|refine Q2 ?_ _));exact QP.out) hb);have n4_:=Q0.mk (Qk (by repeat (first|(with_reducible first|exact HB.out|apply Q3|apply Q1|apply Q6|refine Q5 ?_ Yc.out|refine Q5 ?_ Yk.out)|exact HB.out)) hb);clear HO_13 Ql QP HB;have HO_13:=n0_;have Gb:=n1_;have Ql:=n2_;have QP:=n3_;have HB:=n4_;clear n0_ n1_ n2_ n3_ n4_;(try clear hb);(try clear hb2);(try clear hk);(try clear hi);(try clear ho0);obtain ⟨qxO,qyF,qqv⟩:=Kd.V_slice Gb.out;subst qqv;have Kr:0≤(Z0:Int):=of_decide_eq_true (by first|(with_reducible assumption)|assumption);have Kt:Z0<(GF.length:Int):=of_decide_eq_true (by first|(with_reducible assumption)|assumption);obtain ⟨qgc,qa8,UO⟩:=Kd.at_int (Kd.V_reads' Gb.out).2.2 Z0 Kr Kt;cases qa8;replace Kr:=eq_true Kr;replace Kt:=eq_true Kt;have qdc:w68.cell? ⟨QE,0,none⟩=some (.slice QD Qa.length Qu):=(Q9 Ql.out 0).trans rfl;have qdd:w68.cell? ⟨QE,1,none⟩=some (.slice QB Qf.length Qv):=(Q9 Ql.out 1).trans rfl;have qde:w68.cell? ⟨QE,2,none⟩=some (.slice (some Zb) Qb.length Qw):=(Q9 Ql.out 2).trans rfl;have qdo:=Q8 Ql.out 0;have qdp:=Q8 Ql.out 1;have qdq:=Q8 Ql.out 2;have Ks:0≤(Yt:Int):=of_decide_eq_true (by first|(with_reducible assumption)|assumption);have Ku:Yt<(Qa.length:Int):=of_decide_eq_true (by first|(with_reducible assumption)|assumption);obtain ⟨qgd,qcG,qcR,qcH,qcS,qcI,qcT,qa9,J0,J1,J2,J3,J4,Gh,Ge,Gi,Gf,Gj,Gg⟩:=KR YV.out Yt Ks Ku;cases qa9;replace J0:=(HB.out.cell (World.block_lt_of_cell? w _ J0)).trans J0;replace J1:=(HB.out.cell (World.block_lt_of_cell? w _ J1)).trans J1;replace J2:=(HB.out.cell (World.block_lt_of_cell? w _ J2)).trans J2;replace J3:=(HB.out.cell (World.block_lt_of_cell? w _ J3)).trans J3;replace J4:=(HB.out.cell (World.block_lt_of_cell? w _ J4)).trans J4;have qa1:=Q0.mk Ge;have qaW:=Q0.mk Gh;clear Ge Gh;have qa2:=Q0.mk Gf;have qaX:=Q0.mk Gi;clear Gf Gi;have qa3:=Q0.mk Gg;have qaY:=Q0.mk Gj;clear Gg Gj;replace Ks:=eq_true Ks;replace Ku:=eq_true Ku))
                 repeat (go_quiet (first|(go_at_call 52;(refine (Qt.calls qcv _ _ Qa _ _ Qf _ _ Qb Yt Z6 Zf _ _ ([]:List Int) GF U8 _ ?side1 ?side2 ?side3 ?side4 ?side5 ?side6 ?side7 ?side8 A58.out).mono ?_);(case side1=>repeat (first|exact (Kd.C_below YV.out HB.out)|(with_reducible refine Kd.C_alloc ?_ _)|(with_reducible refine Kd.C_drewN ?_ _)|(with_reducible refine Kd.C_drew ?_)));(case side2=>exact ZA.out);(case side3=>repeat (first|exact (Kd.C_below Zj.out HB.out)|(with_reducible refine Kd.C_alloc ?_ _)|(with_reducible refine Kd.C_drewN ?_ _)|(with_reducible refine Kd.C_drew ?_)));(case side4=>exact ZB.out);(case side5=>repeat (first|exact (Kd.C_below Z5.out HB.out)|(with_reducible refine Kd.C_alloc ?_ _)|(with_reducible refine Kd.C_drewN ?_ _)|(with_reducible refine Kd.C_drew ?_)));(case side6=>exact ZC.out);(case side7=>exact Kd.C_nil _ _);(case side8=>exact Nat.le_refl _);rintro e w68 ⟨qbx,rfl,ho0,hb⟩;have n0_:=Q0.mk (Kd.V_below (by (with_reducible repeat (first|apply Kd.V_alloc|apply Kd.V_drewN|apply Kd.V_drew));exact HO_13.out) hb);have n1_:=Q0.mk (Kd.V_lower (Kd.V_mono (ok':=fun k_=>k_≠QE∧k_≠Yq) ho0 (fun k_ hk_=>⟨(Kd.freshB (g:=QE) (by (with_reducible repeat (first|refine Q4 ?_ _|refine Q7 ?_|refine Q2 ?_ _));exact Ql.out) k_ hk_),(Kd.freshB (g:=Yq) (by (with_reducible repeat (first|refine Q4 ?_ _|refine Q7 ?_|refine Q2 ?_ _));exact QP.out) k_ hk_)⟩)) (Qh (by repeat (first|(with_reducible first|exact HB.out|apply Q3|apply Q1|apply Q6|refine Q5 ?_ Yc.out|refine Q5 ?_ Yk.out)|exact HB.out))));have n2_:=Q0.mk (Qg (g:=QE) (by (with_reducible repeat (first|refine Q4 ?_ _|refine Q7 ?_|refine Q2 ?_ _));exact Ql.out) hb);have n3_:=Q0.mk (Qg (g:=Yq) (by (with_reducible repeat (first|refine Q4 ?_ _|refine Q7 ?_|refine Q2 ?_ _));exact QP.out) hb);have n4_:=Q0.mk (Qk (by repeat (first|(with_reducible first|exact HB.out|apply Q3|apply Q1|apply Q6|refine Q5 ?_ Yc.out|refine Q5 ?_ Yk.out)|exact HB.out)) hb);clear HO_13 Ql QP HB;have HO_13:=n0_;have Gb:=n1_;have Ql:=n2_;have QP:=n3_;have HB:=n4_;clear n0_ n1_ n2_ n3_ n4_;(try clear hb);(try clear hb2);(try clear hk);(try clear hi);(try clear ho0);obtain ⟨qxO,qyF,qqv⟩:=Kd.V_slice Gb.out;subst qqv;have Kr:0≤(Z0:Int):=of_decide_eq_true (by first|(with_reducible assumption)|assumption);have Kt:Z0<(GF.length:Int):=of_decide_eq_true (by first|(with_reducible assumption)|assumption);obtain ⟨qgc,qa8,UO⟩:=Kd.at_int (Kd.V_reads' Gb.out).2.2 Z0 Kr Kt;cases qa8;replace Kr:=eq_true Kr;replace Kt:=eq_true Kt;have qdc:w68.cell? ⟨QE,0,none⟩=some (.slice QD Qa.length Qu):=(Q9 Ql.out 0).trans rfl;have qdd:w68.cell? ⟨QE,1,none⟩=some (.slice QB Qf.length Qv):=(Q9 Ql.out 1).trans rfl;have qde:w68.cell? ⟨QE,2,none⟩=some (.slice (some Zb) Qb.length Qw):=(Q9 Ql.out 2).trans rfl;have qdo:=Q8 Ql.out 0;have qdp:=Q8 Ql.out 1;have qdq:=Q8 Ql.out 2;have Ks:0≤(Yt:Int):=of_decide_eq_true (by first|(with_reducible assumption)|assumption);have Ku:Yt<(Qa.length:Int):=of_decide_eq_true (by first|(with_reducible assumption)|assumption);obtain ⟨qgd,qcG,qcR,qcH,qcS,qcI,qcT,qa9,J0,J1,J2,J3,J4,Gh,Ge,Gi,Gf,Gj,Gg⟩:=KR YV.out Yt Ks Ku;cases qa9;replace J0:=(HB.out.cell (World.block_lt_of_cell? w _ J0)).trans J0;replace J1:=(HB.out.cell (World.block_lt_of_cell? w _ J1)).trans J1;replace J2:=(HB.out.cell (World.block_lt_of_cell? w _ J2)).trans J2;replace J3:=(HB.out.cell (World.block_lt_of_cell? w _ J3)).trans J3;replace J4:=(HB.out.cell (World.block_lt_of_cell? w _ J4)).trans J4;have qa1:=Q0.mk Ge;have qaW:=Q0.mk Gh;clear Ge Gh;have qa2:=Q0.mk Gf;have qaX:=Q0.mk Gi;clear Gf Gi;have qa3:=Q0.mk Gg;have qaY:=Q0.mk Gj;clear Gg Gj;replace Ks:=eq_true Ks;replace Ku:=eq_true Ku));try go_wp2_with (first|(go_at_call 52;(refine (Qt.calls qcv _ _ Qa _ _ Qf _ _ Qb Yt Z6 Zf _ _ ([]:List Int) GF U8 _ ?side1 ?side2 ?side3 ?side4 ?side5 ?side6 ?side7 ?side8 A58.out).mono ?_);(case side1=>repeat (first|exact (Kd.C_below YV.out HB.out)|(with_reducible refine Kd.C_alloc ?_ _)|(with_reducible refine Kd.C_drewN ?_ _)|(with_reducible refine Kd.C_drew ?_)));(case side2=>exact ZA.out);(case side3=>repeat (first|exact (Kd.C_below Zj.out HB.out)|(with_reducible refine Kd.C_alloc ?_ _)|(with_reducible refine Kd.C_drewN ?_ _)|(with_reducible refine Kd.C_drew ?_)));(case side4=>exact ZB.out);(case side5=>repeat (first|exact (Kd.C_below Z5.out HB.out)|(with_reducible refine Kd.C_alloc ?_ _)|(with_reducible refine Kd.C_drewN ?_ _)|(with_reducible refine Kd.C_drew ?_)));(case side6=>exact ZC.out);(case side7=>exact Kd.C_nil _ _);(case side8=>exact Nat.le_refl _);rintro e w68 ⟨qbx,rfl,ho0,hb⟩;have n0_:=Q0.mk (Kd.V_below (by (with_reducible repeat (first|apply Kd.V_alloc|apply Kd.V_drewN|apply Kd.V_drew));exact HO_13.out) hb);have n1_:=Q0.mk (Kd.V_lower (Kd.V_mono (ok':=fun k_=>k_≠QE∧k_≠Yq) ho0 (fun k_ hk_=>⟨(Kd.freshB (g:=QE) (by (with_reducible repeat (first|refine Q4 ?_ _|refine Q7 ?_|refine Q2 ?_ _));exact Ql.out) k_ hk_),(Kd.freshB (g:=Yq) (by (with_reducible repeat (first|refine Q4 ?_ _|refine Q7 ?_|refine Q2 ?_ _));exact QP.out) k_ hk_)⟩)) (Qh (by repeat (first|(with_reducible first|exact HB.out|apply Q3|apply Q1|apply Q6|refine Q5 ?_ Yc.out|refine Q5 ?_ Yk.out)|exact HB.out))));have n2_:=Q0.mk (Qg (g:=QE) (by (with_reducible repeat (first|refine Q4 ?_ _|refine Q7 ?_|refine Q2 ?_ _));exact Ql.out) hb);have n3_:=Q0.mk (Qg (g:=Yq) (by (with_reducible repeat (first|refine Q4 ?_ _|refine Q7 ?_|refine Q2 ?_ _));exact QP.out) hb);have n4_:=Q0.mk (Qk (by repeat (first|(with_reducible first|exact HB.out|apply Q3|apply Q1|apply Q6|refine Q5 ?_ Yc.out|refine Q5 ?_ Yk.out)|exact HB.out)) hb);clear HO_13 Ql QP HB;have HO_13:=n0_;have Gb:=n1_;have Ql:=n2_;have QP:=n3_;have HB:=n4_;clear n0_ n1_ n2_ n3_ n4_;(try clear hb);(try clear hb2);(try clear hk);(try clear hi);(try clear ho0);obtain ⟨qxO,qyF,qqv⟩:=Kd.V_slice Gb.out;subst qqv;have Kr:0≤(Z0:Int):=of_decide_eq_true (by first|(with_reducible assumption)|assumption);have Kt:Z0<(GF.length:Int):=of_decide_eq_true (by first|(with_reducible assumption)|assumption);obtain ⟨qgc,qa8,UO⟩:=Kd.at_int (Kd.V_reads' Gb.out).2.2 Z0 Kr Kt;cases qa8;replace Kr:=eq_true Kr;replace Kt:=eq_true Kt;have qdc:w68.cell? ⟨QE,0,none⟩=some (.slice QD Qa.length Qu):=(Q9 Ql.out 0).trans rfl;have qdd:w68.cell? ⟨QE,1,none⟩=some (.slice QB Qf.length Qv):=(Q9 Ql.out 1).trans rfl;have qde:w68.cell? ⟨QE,2,none⟩=some (.slice (some Zb) Qb.length Qw):=(Q9 Ql.out 2).trans rfl;have qdo:=Q8 Ql.out 0;have qdp:=Q8 Ql.out 1;have qdq:=Q8 Ql.out 2;have Ks:0≤(Yt:Int):=of_decide_eq_true (by first|(with_reducible assumption)|assumption);have Ku:Yt<(Qa.length:Int):=of_decide_eq_true (by first|(with_reducible assumption)|assumption);obtain ⟨qgd,qcG,qcR,qcH,qcS,qcI,qcT,qa9,J0,J1,J2,J3,J4,Gh,Ge,Gi,Gf,Gj,Gg⟩:=KR YV.out Yt Ks Ku;cases qa9;replace J0:=(HB.out.cell (World.block_lt_of_cell? w _ J0)).trans J0;replace J1:=(HB.out.cell (World.block_lt_of_cell? w _ J1)).trans J1;replace J2:=(HB.out.cell (World.block_lt_of_cell? w _ J2)).trans J2;replace J3:=(HB.out.cell (World.block_lt_of_cell? w _ J3)).trans J3;replace J4:=(HB.out.cell (World.block_lt_of_cell? w _ J4)).trans J4;have qa1:=Q0.mk Ge;have qaW:=Q0.mk Gh;clear Ge Gh;have qa2:=Q0.mk Gf;have qaX:=Q0.mk Gi;clear Gf Gi;have qa3:=Q0.mk Gg;have qaY:=Q0.mk Gj;clear Gg Gj;replace Ks:=eq_true Ks;replace Ku:=eq_true Ku)))
                 go_ret
                 exact ⟨by first|rfl|(simp [Qz,QA]<;>rfl)|(simp [*,Qz,QA]<;>rfl),by repeat (first|(with_reducible first|exact HB.out|apply Q3|apply Q1|apply Q6|refine Q5 ?_ Yc.out|refine Q5 ?_ Yk.out)|exact HB.out)⟩
                as_aux_lemma =>
                rw [if_neg c65] at H;have c65b0:decide (((Qe Qa Yt).f3)≤(rd GF Z0))=false:=decide_eq_false c65;clear c65;have H':=Q0.mk H;clear H;have qvl:=Zr.out;have qvo:=Zs.out;have qfb:wc.cell? ⟨QE,0,none⟩=some (.slice QD Qa.length Qu):=(Q9 Ql.out 0).trans rfl;have qfc:wc.cell? ⟨QE,1,none⟩=some (.slice QB Qf.length Qv):=(Q9 Ql.out 1).trans rfl;have qfd:wc.cell? ⟨QE,2,none⟩=some (.slice (some Zb) Qb.length Qw):=(Q9 Ql.out 2).trans rfl;have qfv:=Q8 Ql.out 0;have qfw:=Q8 Ql.out 1;have qfx:=Q8 Ql.out 2
                go_wp2_with (first|(go_at_call 52;(refine (Qt.calls qcv _ _ Qa _ _ Qf _ _ Qb Yt Z6 Zf _ _ ([]:List Int) GF U8 _ ?side1 ?side2 ?side3 ?side4 ?side5 ?side6 ?side7 ?side8 A58.out).mono ?_);(case side1=>repeat (first|exact (Kd.C_below YV.out HB.out)|(with_reducible refine Kd.C_alloc ?_ _)|(with_reducible refine Kd.C_drewN ?_ _)|(with_reducible refine Kd.C_drew ?_)));(case side2=>exact ZA.out);(case side3=>repeat (first|exact (Kd.C_below Zj.out HB.out)|(with_reducible refine Kd.C_alloc ?_ _)|(with_reducible refine Kd.C_drewN ?_ _)|(with_reducible refine Kd.C_drew ?_)));(case side4=>exact ZB.out);(case side5=>repeat (first|exact (Kd.C_below Z5.out HB.out)|(with_reducible refine Kd.C_alloc ?_ _)|(with_reducible refine Kd.C_drewN ?_ _)|(with_reducible refine Kd.C_drew ?_)));(case side6=>exact ZC.out);(case side7=>exact Kd.C_nil _ _);(case side8=>exact Nat.le_refl _);rintro e w73 ⟨qbx,rfl,ho0,hb⟩;have n0_:=Q0.mk (Kd.V_below (by (with_reducible repeat (first|apply Kd.V_alloc|apply Kd.V_drewN|apply Kd.V_drew));exact HO_13.out) hb);have n1_:=Q0.mk (Kd.V_lower (Kd.V_mono (ok':=fun k_=>k_≠QE∧k_≠Yq) ho0 (fun k_ hk_=>⟨(Kd.freshB (g:=QE) (by (with_reducible repeat (first|refine Q4 ?_ _|refine Q7 ?_|refine Q2 ?_ _));exact Ql.out) k_ hk_),(Kd.freshB (g:=Yq) (by (with_reducible repeat (first|refine Q4 ?_ _|refine Q7 ?_|refine Q2 ?_ _));exact QP.out) k_ hk_)⟩)) (Qh (by repeat (first|(with_reducible first|exact HB.out|apply Q3|apply Q1|apply Q6|refine Q5 ?_ Yc.out|refine Q5 ?_ Yk.out)|exact HB.out))));have n2_:=Q0.mk (Qg (g:=QE) (by (with_reducible repeat (first|refine Q4 ?_ _|refine Q7 ?_|refine Q2 ?_ _));exact Ql.out) hb);have n3_:=Q0.mk (Qg (g:=Yq) (by (with_reducible repeat (first|refine Q4 ?_ _|refine Q7 ?_|refine Q2 ?_ _));exact QP.out) hb);have n4_:=Q0.mk (Qk (by repeat (first|(with_reducible first|exact HB.out|apply Q3|apply Q1|apply Q6|refine Q5 ?_ Yc.out|refine Q5 ?_ Yk.out)|exact HB.out)) hb);clear HO_13 Ql QP HB;have HO_13:=n0_;have Gb:=n1_;have Ql:=n2_;have QP:=n3_;have HB:=n4_;clear n0_ n1_ n2_ n3_ n4_;(try clear hb);(try clear hb2);(try clear hk);(try clear hi);(try clear ho0);obtain ⟨qxP,qyG,qqw⟩:=Kd.V_slice Gb.out;subst qqw;have Kr:0≤(Z0:Int):=of_decide_eq_true (by first|(with_reducible assumption)|assumption);have Kt:Z0<(GF.length:Int):=of_decide_eq_true (by first|(with_reducible assumption)|assumption);obtain ⟨qgc,qa8,UO⟩:=Kd.at_int (Kd.V_reads' Gb.out).2.2 Z0 Kr Kt;cases qa8;replace Kr:=eq_true Kr;replace Kt:=eq_true Kt;have qab:w73.cell? ⟨QE,0,none⟩=some (.slice QD Qa.length Qu):=(Q9 Ql.out 0).trans rfl;have qac:w73.cell? ⟨QE,1,none⟩=some (.slice QB Qf.length Qv):=(Q9 Ql.out 1).trans rfl;have qad:w73.cell? ⟨QE,2,none⟩=some (.slice (some Zb) Qb.length Qw):=(Q9 Ql.out 2).trans rfl;have qap:=Q8 Ql.out 0;have qaq:=Q8 Ql.out 1;have qar:=Q8 Ql.out 2;have Ks:0≤(Yt:Int):=of_decide_eq_true (by first|(with_reducible assumption)|assumption);have Ku:Yt<(Qa.length:Int):=of_decide_eq_true (by first|(with_reducible assumption)|assumption);obtain ⟨qgd,qcG,qcR,qcH,qcS,qcI,qcT,qa9,J0,J1,J2,J3,J4,Gh,Ge,Gi,Gf,Gj,Gg⟩:=KR YV.out Yt Ks Ku;cases qa9;replace J0:=(HB.out.cell (World.block_lt_of_cell? w _ J0)).trans J0;replace J1:=(HB.out.cell (World.block_lt_of_cell? w _ J1)).trans J1;replace J2:=(HB.out.cell (World.block_lt_of_cell? w _ J2)).trans J2;replace J3:=(HB.out.cell (World.block_lt_of_cell? w _ J3)).trans J3;replace J4:=(HB.out.cell (World.block_lt_of_cell? w _ J4)).trans J4;have qa1:=Q0.mk Ge;have qaW:=Q0.mk Gh;clear Ge Gh;have qa2:=Q0.mk Gf;have qaX:=Q0.mk Gi;clear Gf Gi;have qa3:=Q0.mk Gg;have qaY:=Q0.mk Gj;clear Gg Gj;replace Ks:=eq_true Ks;replace Ku:=eq_true Ku))
                repeat (go_quiet (first|(go_at_call 52;(refine (Qt.calls qcv _ _ Qa _ _ Qf _ _ Qb Yt Z6 Zf _ _ ([]:List Int) GF U8 _ ?side1 ?side2 ?side3 ?side4 ?side5 ?side6 ?side7 ?side8 A58.out).mono ?_);(case side1=>repeat (first|exact (Kd.C_below YV.out HB.out)|(with_reducible refine Kd.C_alloc ?_ _)|(with_reducible refine Kd.C_drewN ?_ _)|(with_reducible refine Kd.C_drew ?_)));(case side2=>exact ZA.out);(case side3=>repeat (first|exact (Kd.C_below Zj.out HB.out)|(with_reducible refine Kd.C_alloc ?_ _)|(with_reducible refine Kd.C_drewN ?_ _)|(with_reducible refine Kd.C_drew ?_)));(case side4=>exact ZB.out);(case side5=>repeat (first|exact (Kd.C_below Z5.out HB.out)|(with_reducible refine Kd.C_alloc ?_ _)|(with_reducible refine Kd.C_drewN ?_ _)|(with_reducible refine Kd.C_drew ?_)));(case side6=>exact ZC.out);(case side7=>exact Kd.C_nil _ _);(case side8=>exact Nat.le_refl _);rintro e w73 ⟨qbx,rfl,ho0,hb⟩;have n0_:=Q0.mk (Kd.V_below (by (with_reducible repeat (first|apply Kd.V_alloc|apply Kd.V_drewN|apply Kd.V_drew));exact HO_13.out) hb);have n1_:=Q0.mk (Kd.V_lower (Kd.V_mono (ok':=fun k_=>k_≠QE∧k_≠Yq) ho0 (fun k_ hk_=>⟨(Kd.freshB (g:=QE) (by (with_reducible repeat (first|refine Q4 ?_ _|refine Q7 ?_|refine Q2 ?_ _));exact Ql.out) k_ hk_),(Kd.freshB (g:=Yq) (by (with_reducible repeat (first|refine Q4 ?_ _|refine Q7 ?_|refine Q2 ?_ _));exact QP.out) k_ hk_)⟩)) (Qh (by repeat (first|(with_reducible first|exact HB.out|apply Q3|apply Q1|apply Q6|refine Q5 ?_ Yc.out|refine Q5 ?_ Yk.out)|exact HB.out))));have n2_:=Q0.mk (Qg (g:=QE) (by (with_reducible repeat (first|refine Q4 ?_ _|refine Q7 ?_|refine Q2 ?_ _));exact Ql.out) hb);have n3_:=Q0.mk (Qg (g:=Yq) (by (with_reducible repeat (first|refine Q4 ?_ _|refine Q7 ?_|refine Q2 ?_ _));exact QP.out) hb);have n4_:=Q0.mk (Qk (by repeat (first|(with_reducible first|exact HB.out|apply Q3|apply Q1|apply Q6|refine Q5 ?_ Yc.out|refine Q5 ?_ Yk.out)|exact HB.out)) hb);clear HO_13 Ql QP HB;have HO_13:=n0_;have Gb:=n1_;have Ql:=n2_;have QP:=n3_;have HB:=n4_;clear n0_ n1_ n2_ n3_ n4_;(try clear hb);(try clear hb2);(try clear hk);(try clear hi);(try clear ho0);obtain ⟨qxP,qyG,qqw⟩:=Kd.V_slice Gb.out;subst qqw;have Kr:0≤(Z0:Int):=of_decide_eq_true (by first|(with_reducible assumption)|assumption);have Kt:Z0<(GF.length:Int):=of_decide_eq_true (by first|(with_reducible assumption)|assumption);obtain ⟨qgc,qa8,UO⟩:=Kd.at_int (Kd.V_reads' Gb.out).2.2 Z0 Kr Kt;cases qa8;replace Kr:=eq_true Kr;replace Kt:=eq_true Kt;have qab:w73.cell? ⟨QE,0,none⟩=some (.slice QD Qa.length Qu):=(Q9 Ql.out 0).trans rfl;have qac:w73.cell? ⟨QE,1,none⟩=some (.slice QB Qf.length Qv):=(Q9 Ql.out 1).trans rfl;have qad:w73.cell? ⟨QE,2,none⟩=some (.slice (some Zb) Qb.length Qw):=(Q9 Ql.out 2).trans rfl;have qap:=Q8 Ql.out 0;have qaq:=Q8 Ql.out 1;have qar:=Q8 Ql.out 2;have Ks:0≤(Yt:Int):=of_decide_eq_true (by first|(with_reducible assumption)|assumption);have Ku:Yt<(Qa.length:Int):=of_decide_eq_true (by first|(with_reducible assumption)|assumption);obtain ⟨qgd,qcG,qcR,qcH,qcS,qcI,qcT,qa9,J0,J1,J2,J3,J4,Gh,Ge,Gi,Gf,Gj,Gg⟩:=KR YV.out Yt Ks Ku;cases qa9;replace J0:=(HB.out.cell (World.block_lt_of_cell? w _ J0)).trans J0;replace J1:=(HB.out.cell (World.block_lt_of_cell? w _ J1)).trans J1;replace J2:=(HB.out.cell (World.block_lt_of_cell? w _ J2)).trans J2;replace J3:=(HB.out.cell (World.block_lt_of_cell? w _ J3)).trans J3;replace J4:=(HB.out.cell (World.block_lt_of_cell? w _ J4)).trans J4;have qa1:=Q0.mk Ge;have qaW:=Q0.mk Gh;clear Ge Gh;have qa2:=Q0.mk Gf;have qaX:=Q0.mk Gi;clear Gf Gi;have qa3:=Q0.mk Gg;have qaY:=Q0.mk Gj;clear Gg Gj;replace Ks:=eq_true Ks;replace Ku:=eq_true Ku));try go_wp2_with (first|(go_at_call 52;(refine (Qt.calls qcv _ _ Qa _ _ Qf _ _ Qb Yt Z6 Zf _ _ ([]:List Int) GF U8 _ ?side1 ?side2 ?side3 ?side4 ?side5 ?side6 ?side7 ?side8 A58.out).mono ?_);(case side1=>repeat (first|exact (Kd.C_below YV.out HB.out)|(with_reducible refine Kd.C_alloc ?_ _)|(with_reducible refine Kd.C_drewN ?_ _)|(with_reducible refine Kd.C_drew ?_)));(case side2=>exact ZA.out);(case side3=>repeat (first|exact (Kd.C_below Zj.out HB.out)|(with_reducible refine Kd.C_alloc ?_ _)|(with_reducible refine Kd.C_drewN ?_ _)|(with_reducible refine Kd.C_drew ?_)));(case side4=>exact ZB.out);(case side5=>repeat (first|exact (Kd.C_below Z5.out HB.out)|(with_reducible refine Kd.C_alloc ?_ _)|(with_reducible refine Kd.C_drewN ?_ _)|(with_reducible refine Kd.C_drew ?_)));(case side6=>exact ZC.out);(case side7=>exact Kd.C_nil _ _);(case side8=>exact Nat.le_refl _);rintro e w73 ⟨qbx,rfl,ho0,hb⟩;have n0_:=Q0.mk (Kd.V_below (by (with_reducible repeat (first|apply Kd.V_alloc|apply Kd.V_drewN|apply Kd.V_drew));exact HO_13.out) hb);have n1_:=Q0.mk (Kd.V_lower (Kd.V_mono (ok':=fun k_=>k_≠QE∧k_≠Yq) ho0 (fun k_ hk_=>⟨(Kd.freshB (g:=QE) (by (with_reducible repeat (first|refine Q4 ?_ _|refine Q7 ?_|refine Q2 ?_ _));exact Ql.out) k_ hk_),(Kd.freshB (g:=Yq) (by (with_reducible repeat (first|refine Q4 ?_ _|refine Q7 ?_|refine Q2 ?_ _));exact QP.out) k_ hk_)⟩)) (Qh (by repeat (first|(with_reducible first|exact HB.out|apply Q3|apply Q1|apply Q6|refine Q5 ?_ Yc.out|refine Q5 ?_ Yk.out)|exact HB.out))));have n2_:=Q0.mk (Qg (g:=QE) (by (with_reducible repeat (first|refine Q4 ?_ _|refine Q7 ?_|refine Q2 ?_ _));exact Ql.out) hb);have n3_:=Q0.mk (Qg (g:=Yq) (by (with_reducible repeat (first|refine Q4 ?_ _|refine Q7 ?_|refine Q2 ?_ _));exact QP.out) hb);have n4_:=Q0.mk (Qk (by repeat (first|(with_reducible first|exact HB.out|apply Q3|apply Q1|apply Q6|refine Q5 ?_ Yc.out|refine Q5 ?_ Yk.out)|exact HB.out)) hb);clear HO_13 Ql QP HB;have HO_13:=n0_;have Gb:=n1_;have Ql:=n2_;have QP:=n3_;have HB:=n4_;clear n0_ n1_ n2_ n3_ n4_;(try clear hb);(try clear hb2);(try clear hk);(try clear hi);(try clear ho0);obtain ⟨qxP,qyG,qqw⟩:=Kd.V_slice Gb.out;subst qqw;have Kr:0≤(Z0:Int):=of_decide_eq_true (by first|(with_reducible assumption)|assumption);have Kt:Z0<(GF.length:Int):=of_decide_eq_true (by first|(with_reducible assumption)|assumption);obtain ⟨qgc,qa8,UO⟩:=Kd.at_int (Kd.V_reads' Gb.out).2.2 Z0 Kr Kt;cases qa8;replace Kr:=eq_true Kr;replace Kt:=eq_true Kt;have qab:w73.cell? ⟨QE,0,none⟩=some (.slice QD Qa.length Qu):=(Q9 Ql.out 0).trans rfl;have qac:w73.cell? ⟨QE,1,none⟩=some (.slice QB Qf.length Qv):=(Q9 Ql.out 1).trans rfl;have qad:w73.cell? ⟨QE,2,none⟩=some (.slice (some Zb) Qb.length Qw):=(Q9 Ql.out 2).trans rfl;have qap:=Q8 Ql.out 0;have qaq:=Q8 Ql.out 1;have qar:=Q8 Ql.out 2;have Ks:0≤(Yt:Int):=of_decide_eq_true (by first|(with_reducible assumption)|assumption);have Ku:Yt<(Qa.length:Int):=of_decide_eq_true (by first|(with_reducible assumption)|assumption);obtain ⟨qgd,qcG,qcR,qcH,qcS,qcI,qcT,qa9,J0,J1,J2,J3,J4,Gh,Ge,Gi,Gf,Gj,Gg⟩:=KR YV.out Yt Ks Ku;cases qa9;replace J0:=(HB.out.cell (World.block_lt_of_cell? w _ J0)).trans J0;replace J1:=(HB.out.cell (World.block_lt_of_cell? w _ J1)).trans J1;replace J2:=(HB.out.cell (World.block_lt_of_cell? w _ J2)).trans J2;replace J3:=(HB.out.cell (World.block_lt_of_cell? w _ J3)).trans J3;replace J4:=(HB.out.cell (World.block_lt_of_cell? w _ J4)).trans J4;have qa1:=Q0.mk Ge;have qaW:=Q0.mk Gh;clear Ge Gh;have qa2:=Q0.mk Gf;have qaX:=Q0.mk Gi;clear Gf Gi;have qa3:=Q0.mk Gg;have qaY:=Q0.mk Gj;clear Gg Gj;replace Ks:=eq_true Ks;replace Ku:=eq_true Ku)))
                go_meet
                case rel=>exact ⟨_,(Z0),(by first|rfl|(simp;done)|(simp [*];done)),H',⟨by have:=HJ5.out;have:=W4.out;have:=qGL.out;first|omega|exact Nat.le_refl _⟩,⟨by (with_reducible repeat (first|apply Kd.V_alloc|apply Kd.V_drewN|apply Kd.V_drew));exact HO_13.out⟩,⟨by (with_reducible repeat (first|refine Q4 ?_ _|refine Q7 ?_|refine Q2 ?_ _));exact Ql.out⟩,⟨by (with_reducible repeat (first|refine Q4 ?_ _|refine Q7 ?_|refine Q2 ?_ _));exact QP.out⟩,⟨by repeat (first|(with_reducible first|exact HB.out|apply Q3|apply Q1|apply Q6|refine Q5 ?_ Yc.out|refine Q5 ?_ Yk.out)|exact HB.out)⟩⟩
               rw [if_neg c64] at H
               exact absurd H (by simp)
              rw [if_neg c63] at H
              exact absurd H (by simp)
             rw [if_neg c62] at H
             exact absurd H (by simp)
            rw [if_neg c61] at H
            exact absurd H (by simp)
           as_aux_lemma =>
           rw [if_neg c60] at H;have c60b0:((GF.length:Int)==((QC (Qs Qb 0) 0).length:Int))=false:=beq_eq_false_iff_ne.mpr c60;have c60b1:((GF.length:Int) != ((QC (Qs Qb 0) 0).length:Int))=true:=bne_iff_ne.mpr c60
           have c60b2:(GF.length==(QC (Qs Qb 0) 0).length)=false:=by first|simpa using c60|(simp at c60 ⊢;omega)
           obtain rfl:=Option.some.inj H;have qAw:=Zr.out;have qAQ:=Zs.out;have qdf:wc.cell? ⟨QE,0,none⟩=some (.slice QD Qa.length Qu):=(Q9 Ql.out 0).trans rfl;have qfe:wc.cell? ⟨QE,1,none⟩=some (.slice QB Qf.length Qv):=(Q9 Ql.out 1).trans rfl;have qih:wc.cell? ⟨QE,2,none⟩=some (.slice (some Zb) Qb.length Qw):=(Q9 Ql.out 2).trans rfl;have qdr:=Q8 Ql.out 0;have qfy:=Q8 Ql.out 1;have qiH:=Q8 Ql.out 2
           go_wp2_with (first|(go_at_call 52;(refine (Qt.calls qcv _ _ Qa _ _ Qf _ _ Qb Yt Z6 Zf _ _ ([]:List Int) GF U8 _ ?side1 ?side2 ?side3 ?side4 ?side5 ?side6 ?side7 ?side8 A58.out).mono ?_);(case side1=>repeat (first|exact (Kd.C_below YV.out HB.out)|(with_reducible refine Kd.C_alloc ?_ _)|(with_reducible refine Kd.C_drewN ?_ _)|(with_reducible refine Kd.C_drew ?_)));(case side2=>exact ZA.out);(case side3=>repeat (first|exact (Kd.C_below Zj.out HB.out)|(with_reducible refine Kd.C_alloc ?_ _)|(with_reducible refine Kd.C_drewN ?_ _)|(with_reducible refine Kd.C_drew ?_)));(case side4=>exact ZB.out);(case side5=>repeat (first|exact (Kd.C_below Z5.out HB.out)|(with_reducible refine Kd.C_alloc ?_ _)|(with_reducible refine Kd.C_drewN ?_ _)|(with_reducible refine Kd.C_drew ?_)));(case side6=>exact ZC.out);(case side7=>exact Kd.C_nil _ _);(case side8=>exact Nat.le_refl _);rintro e w78 ⟨qbx,rfl,ho0,hb⟩;have n0_:=Q0.mk (Kd.V_below (by (with_reducible repeat (first|apply Kd.V_alloc|apply Kd.V_drewN|apply Kd.V_drew));exact HO_13.out) hb);have n1_:=Q0.mk (Kd.V_lower (Kd.V_mono (ok':=fun k_=>k_≠QE∧k_≠Yq) ho0 (fun k_ hk_=>⟨(Kd.freshB (g:=QE) (by (with_reducible repeat (first|refine Q4 ?_ _|refine Q7 ?_|refine Q2 ?_ _));exact Ql.out) k_ hk_),(Kd.freshB (g:=Yq) (by (with_reducible repeat (first|refine Q4 ?_ _|refine Q7 ?_|refine Q2 ?_ _));exact QP.out) k_ hk_)⟩)) (Qh (by repeat (first|(with_reducible first|exact HB.out|apply Q3|apply Q1|apply Q6|refine Q5 ?_ Yc.out|refine Q5 ?_ Yk.out)|exact HB.out))));have n2_:=Q0.mk (Qg (g:=QE) (by (with_reducible repeat (first|refine Q4 ?_ _|refine Q7 ?_|refine Q2 ?_ _));exact Ql.out) hb);have n3_:=Q0.mk (Qg (g:=Yq) (by (with_reducible repeat (first|refine Q4 ?_ _|refine Q7 ?_|refine Q2 ?_ _));exact QP.out) hb);have n4_:=Q0.mk (Qk (by repeat (first|(with_reducible first|exact HB.out|apply Q3|apply Q1|apply Q6|refine Q5 ?_ Yc.out|refine Q5 ?_ Yk.out)|exact HB.out)) hb);clear HO_13 Ql QP HB;have HO_13:=n0_;have Gb:=n1_;have Ql:=n2_;have QP:=n3_;have HB:=n4_;clear n0_ n1_ n2_ n3_ n4_;(try clear hb);(try clear hb2);(try clear hk);(try clear hi);(try clear ho0);obtain ⟨qxQ,qyH,qqx⟩:=Kd.V_slice Gb.out;subst qqx))
           repeat (go_quiet (first|(go_at_call 52;(refine (Qt.calls qcv _ _ Qa _ _ Qf _ _ Qb Yt Z6 Zf _ _ ([]:List Int) GF U8 _ ?side1 ?side2 ?side3 ?side4 ?side5 ?side6 ?side7 ?side8 A58.out).mono ?_);(case side1=>repeat (first|exact (Kd.C_below YV.out HB.out)|(with_reducible refine Kd.C_alloc ?_ _)|(with_reducible refine Kd.C_drewN ?_ _)|(with_reducible refine Kd.C_drew ?_)));(case side2=>exact ZA.out);(case side3=>repeat (first|exact (Kd.C_below Zj.out HB.out)|(with_reducible refine Kd.C_alloc ?_ _)|(with_reducible refine Kd.C_drewN ?_ _)|(with_reducible refine Kd.C_drew ?_)));(case side4=>exact ZB.out);(case side5=>repeat (first|exact (Kd.C_below Z5.out HB.out)|(with_reducible refine Kd.C_alloc ?_ _)|(with_reducible refine Kd.C_drewN ?_ _)|(with_reducible refine Kd.C_drew ?_)));(case side6=>exact ZC.out);(case side7=>exact Kd.C_nil _ _);(case side8=>exact Nat.le_refl _);rintro e w78 ⟨qbx,rfl,ho0,hb⟩;have n0_:=Q0.mk (Kd.V_below (by (with_reducible repeat (first|apply Kd.V_alloc|apply Kd.V_drewN|apply Kd.V_drew));exact HO_13.out) hb);have n1_:=Q0.mk (Kd.V_lower (Kd.V_mono (ok':=fun k_=>k_≠QE∧k_≠Yq) ho0 (fun k_ hk_=>⟨(Kd.freshB (g:=QE) (by (with_reducible repeat (first|refine Q4 ?_ _|refine Q7 ?_|refine Q2 ?_ _));exact Ql.out) k_ hk_),(Kd.freshB (g:=Yq) (by (with_reducible repeat (first|refine Q4 ?_ _|refine Q7 ?_|refine Q2 ?_ _));exact QP.out) k_ hk_)⟩)) (Qh (by repeat (first|(with_reducible first|exact HB.out|apply Q3|apply Q1|apply Q6|refine Q5 ?_ Yc.out|refine Q5 ?_ Yk.out)|exact HB.out))));have n2_:=Q0.mk (Qg (g:=QE) (by (with_reducible repeat (first|refine Q4 ?_ _|refine Q7 ?_|refine Q2 ?_ _));exact Ql.out) hb);have n3_:=Q0.mk (Qg (g:=Yq) (by (with_reducible repeat (first|refine Q4 ?_ _|refine Q7 ?_|refine Q2 ?_ _));exact QP.out) hb);have n4_:=Q0.mk (Qk (by repeat (first|(with_reducible first|exact HB.out|apply Q3|apply Q1|apply Q6|refine Q5 ?_ Yc.out|refine Q5 ?_ Yk.out)|exact HB.out)) hb);clear HO_13 Ql QP HB;have HO_13:=n0_;have Gb:=n1_;have Ql:=n2_;have QP:=n3_;have HB:=n4_;clear n0_ n1_ n2_ n3_ n4_;(try clear hb);(try clear hb2);(try clear hk);(try clear hi);(try clear ho0);obtain ⟨qxQ,qyH,qqx⟩:=Kd.V_slice Gb.out;subst qqx));try go_wp2_with (first|(go_at_call 52;(refine (Qt.calls qcv _ _ Qa _ _ Qf _ _ Qb Yt Z6 Zf _ _ ([]:List Int) GF U8 _ ?side1 ?side2 ?side3 ?side4 ?side5 ?side6 ?side7 ?side8 A58.out).mono ?_);(case side1=>repeat (first|exact (Kd.C_below YV.out HB.out)|(with_reducible refine Kd.C_alloc ?_ _)|(with_reducible refine Kd.C_drewN ?_ _)|(with_reducible refine Kd.C_drew ?_)));(case side2=>exact ZA.out);(case side3=>repeat (first|exact (Kd.C_below Zj.out HB.out)|(with_reducible refine Kd.C_alloc ?_ _)|(with_reducible refine Kd.C_drewN ?_ _)|(with_reducible refine Kd.C_drew ?_)));(case side4=>exact ZB.out);(case side5=>repeat (first|exact (Kd.C_below Z5.out HB.out)|(with_reducible refine Kd.C_alloc ?_ _)|(with_reducible refine Kd.C_drewN ?_ _)|(with_reducible refine Kd.C_drew ?_)));(case side6=>exact ZC.out);(case side7=>exact Kd.C_nil _ _);(case side8=>exact Nat.le_refl _);rintro e w78 ⟨qbx,rfl,ho0,hb⟩;have n0_:=Q0.mk (Kd.V_below (by (with_reducible repeat (first|apply Kd.V_alloc|apply Kd.V_drewN|apply Kd.V_drew));exact HO_13.out) hb);have n1_:=Q0.mk (Kd.V_lower (Kd.V_mono (ok':=fun k_=>k_≠QE∧k_≠Yq) ho0 (fun k_ hk_=>⟨(Kd.freshB (g:=QE) (by (with_reducible repeat (first|refine Q4 ?_ _|refine Q7 ?_|refine Q2 ?_ _));exact Ql.out) k_ hk_),(Kd.freshB (g:=Yq) (by (with_reducible repeat (first|refine Q4 ?_ _|refine Q7 ?_|refine Q2 ?_ _));exact QP.out) k_ hk_)⟩)) (Qh (by repeat (first|(with_reducible first|exact HB.out|apply Q3|apply Q1|apply Q6|refine Q5 ?_ Yc.out|refine Q5 ?_ Yk.out)|exact HB.out))));have n2_:=Q0.mk (Qg (g:=QE) (by (with_reducible repeat (first|refine Q4 ?_ _|refine Q7 ?_|refine Q2 ?_ _));exact Ql.out) hb);have n3_:=Q0.mk (Qg (g:=Yq) (by (with_reducible repeat (first|refine Q4 ?_ _|refine Q7 ?_|refine Q2 ?_ _));exact QP.out) hb);have n4_:=Q0.mk (Qk (by repeat (first|(with_reducible first|exact HB.out|apply Q3|apply Q1|apply Q6|refine Q5 ?_ Yc.out|refine Q5 ?_ Yk.out)|exact HB.out)) hb);clear HO_13 Ql QP HB;have HO_13:=n0_;have Gb:=n1_;have Ql:=n2_;have QP:=n3_;have HB:=n4_;clear n0_ n1_ n2_ n3_ n4_;(try clear hb);(try clear hb2);(try clear hk);(try clear hi);(try clear ho0);obtain ⟨qxQ,qyH,qqx⟩:=Kd.V_slice Gb.out;subst qqx)))
           go_ret
           exact ⟨by first|rfl|(simp [Qz,QA]<;>rfl)|(simp [*,Qz,QA]<;>rfl),by repeat (first|(with_reducible first|exact HB.out|apply Q3|apply Q1|apply Q6|refine Q5 ?_ Yc.out|refine Q5 ?_ Yk.out)|exact HB.out)⟩
          as_aux_lemma =>
          rw [if_neg c59] at H;have c59b0:(U8==0)=false:=beq_eq_false_iff_ne.mpr c59;have c59b1:(U8 != 0)=true:=bne_iff_ne.mpr c59;obtain rfl:=Option.some.inj H;have qAx:=Zr.out;have qAR:=Zs.out;have qii:wc.cell? ⟨QE,0,none⟩=some (.slice QD Qa.length Qu):=(Q9 Ql.out 0).trans rfl;have qij:wc.cell? ⟨QE,1,none⟩=some (.slice QB Qf.length Qv):=(Q9 Ql.out 1).trans rfl;have qik:wc.cell? ⟨QE,2,none⟩=some (.slice (some Zb) Qb.length Qw):=(Q9 Ql.out 2).trans rfl;have qiI:=Q8 Ql.out 0;have qiJ:=Q8 Ql.out 1;have qiK:=Q8 Ql.out 2
          go_wp2_with (first|(go_at_call 52;(refine (Qt.calls qcv _ _ Qa _ _ Qf _ _ Qb Yt Z6 Zf _ _ ([]:List Int) GF U8 _ ?side1 ?side2 ?side3 ?side4 ?side5 ?side6 ?side7 ?side8 A58.out).mono ?_);(case side1=>repeat (first|exact (Kd.C_below YV.out HB.out)|(with_reducible refine Kd.C_alloc ?_ _)|(with_reducible refine Kd.C_drewN ?_ _)|(with_reducible refine Kd.C_drew ?_)));(case side2=>exact ZA.out);(case side3=>repeat (first|exact (Kd.C_below Zj.out HB.out)|(with_reducible refine Kd.C_alloc ?_ _)|(with_reducible refine Kd.C_drewN ?_ _)|(with_reducible refine Kd.C_drew ?_)));(case side4=>exact ZB.out);(case side5=>repeat (first|exact (Kd.C_below Z5.out HB.out)|(with_reducible refine Kd.C_alloc ?_ _)|(with_reducible refine Kd.C_drewN ?_ _)|(with_reducible refine Kd.C_drew ?_)));(case side6=>exact ZC.out);(case side7=>exact Kd.C_nil _ _);(case side8=>exact Nat.le_refl _);rintro e w82 ⟨qbx,rfl,ho0,hb⟩;have n0_:=Q0.mk (Kd.V_below (by (with_reducible repeat (first|apply Kd.V_alloc|apply Kd.V_drewN|apply Kd.V_drew));exact HO_13.out) hb);have n1_:=Q0.mk (Kd.V_lower (Kd.V_mono (ok':=fun k_=>k_≠QE∧k_≠Yq) ho0 (fun k_ hk_=>⟨(Kd.freshB (g:=QE) (by (with_reducible repeat (first|refine Q4 ?_ _|refine Q7 ?_|refine Q2 ?_ _));exact Ql.out) k_ hk_),(Kd.freshB (g:=Yq) (by (with_reducible repeat (first|refine Q4 ?_ _|refine Q7 ?_|refine Q2 ?_ _));exact QP.out) k_ hk_)⟩)) (Qh (by repeat (first|(with_reducible first|exact HB.out|apply Q3|apply Q1|apply Q6|refine Q5 ?_ Yc.out|refine Q5 ?_ Yk.out)|exact HB.out))));have n2_:=Q0.mk (Qg (g:=QE) (by (with_reducible repeat (first|refine Q4 ?_ _|refine Q7 ?_|refine Q2 ?_ _));exact Ql.out) hb);have n3_:=Q0.mk (Qg (g:=Yq) (by (with_reducible repeat (first|refine Q4 ?_ _|refine Q7 ?_|refine Q2 ?_ _));exact QP.out) hb);have n4_:=Q0.mk (Qk (by repeat (first|(with_reducible first|exact HB.out|apply Q3|apply Q1|apply Q6|refine Q5 ?_ Yc.out|refine Q5 ?_ Yk.out)|exact HB.out)) hb);clear HO_13 Ql QP HB;have HO_13:=n0_;have Gb:=n1_;have Ql:=n2_;have QP:=n3_;have HB:=n4_;clear n0_ n1_ n2_ n3_ n4_;(try clear hb);(try clear hb2);(try clear hk);(try clear hi);(try clear ho0)))
          repeat (go_quiet (first|(go_at_call 52;(refine (Qt.calls qcv _ _ Qa _ _ Qf _ _ Qb Yt Z6 Zf _ _ ([]:List Int) GF U8 _ ?side1 ?side2 ?side3 ?side4 ?side5 ?side6 ?side7 ?side8 A58.out).mono ?_);(case side1=>repeat (first|exact (Kd.C_below YV.out HB.out)|(with_reducible refine Kd.C_alloc ?_ _)|(with_reducible refine Kd.C_drewN ?_ _)|(with_reducible refine Kd.C_drew ?_)));(case side2=>exact ZA.out);(case side3=>repeat (first|exact (Kd.C_below Zj.out HB.out)|(with_reducible refine Kd.C_alloc ?_ _)|(with_reducible refine Kd.C_drewN ?_ _)|(with_reducible refine Kd.C_drew ?_)));(case side4=>exact ZB.out);(case side5=>repeat (first|exact (Kd.C_below Z5.out HB.out)|(with_reducible refine Kd.C_alloc ?_ _)|(with_reducible refine Kd.C_drewN ?_ _)|(with_reducible refine Kd.C_drew ?_)));(case side6=>exact ZC.out);(case side7=>exact Kd.C_nil _ _);(case side8=>exact Nat.le_refl _);rintro e w82 ⟨qbx,rfl,ho0,hb⟩;have n0_:=Q0.mk (Kd.V_below (by (with_reducible repeat (first|apply Kd.V_alloc|apply Kd.V_drewN|apply Kd.V_drew));exact HO_13.out) hb);have n1_:=Q0.mk (Kd.V_lower (Kd.V_mono (ok':=fun k_=>k_≠QE∧k_≠Yq) ho0 (fun k_ hk_=>⟨(Kd.freshB (g:=QE) (by (with_reducible repeat (first|refine Q4 ?_ _|refine Q7 ?_|refine Q2 ?_ _));exact Ql.out) k_ hk_),(Kd.freshB (g:=Yq) (by (with_reducible repeat (first|refine Q4 ?_ _|refine Q7 ?_|refine Q2 ?_ _));exact QP.out) k_ hk_)⟩)) (Qh (by repeat (first|(with_reducible first|exact HB.out|apply Q3|apply Q1|apply Q6|refine Q5 ?_ Yc.out|refine Q5 ?_ Yk.out)|exact HB.out))));have n2_:=Q0.mk (Qg (g:=QE) (by (with_reducible repeat (first|refine Q4 ?_ _|refine Q7 ?_|refine Q2 ?_ _));exact Ql.out) hb);have n3_:=Q0.mk (Qg (g:=Yq) (by (with_reducible repeat (first|refine Q4 ?_ _|refine Q7 ?_|refine Q2 ?_ _));exact QP.out) hb);have n4_:=Q0.mk (Qk (by repeat (first|(with_reducible first|exact HB.out|apply Q3|apply Q1|apply Q6|refine Q5 ?_ Yc.out|refine Q5 ?_ Yk.out)|exact HB.out)) hb);clear HO_13 Ql QP HB;have HO_13:=n0_;have Gb:=n1_;have Ql:=n2_;have QP:=n3_;have HB:=n4_;clear n0_ n1_ n2_ n3_ n4_;(try clear hb);(try clear hb2);(try clear hk);(try clear hi);(try clear ho0)));try go_wp2_with (first|(go_at_call 52;(refine (Qt.calls qcv _ _ Qa _ _ Qf _ _ Qb Yt Z6 Zf _ _ ([]:List Int) GF U8 _ ?side1 ?side2 ?side3 ?side4 ?side5 ?side6 ?side7 ?side8 A58.out).mono ?_);(case side1=>repeat (first|exact (Kd.C_below YV.out HB.out)|(with_reducible refine Kd.C_alloc ?_ _)|(with_reducible refine Kd.C_drewN ?_ _)|(with_reducible refine Kd.C_drew ?_)));(case side2=>exact ZA.out);(case side3=>repeat (first|exact (Kd.C_below Zj.out HB.out)|(with_reducible refine Kd.C_alloc ?_ _)|(with_reducible refine Kd.C_drewN ?_ _)|(with_reducible refine Kd.C_drew ?_)));(case side4=>exact ZB.out);(case side5=>repeat (first|exact (Kd.C_below Z5.out HB.out)|(with_reducible refine Kd.C_alloc ?_ _)|(with_reducible refine Kd.C_drewN ?_ _)|(with_reducible refine Kd.C_drew ?_)));(case side6=>exact ZC.out);(case side7=>exact Kd.C_nil _ _);(case side8=>exact Nat.le_refl _);rintro e w82 ⟨qbx,rfl,ho0,hb⟩;have n0_:=Q0.mk (Kd.V_below (by (with_reducible repeat (first|apply Kd.V_alloc|apply Kd.V_drewN|apply Kd.V_drew));exact HO_13.out) hb);have n1_:=Q0.mk (Kd.V_lower (Kd.V_mono (ok':=fun k_=>k_≠QE∧k_≠Yq) ho0 (fun k_ hk_=>⟨(Kd.freshB (g:=QE) (by (with_reducible repeat (first|refine Q4 ?_ _|refine Q7 ?_|refine Q2 ?_ _));exact Ql.out) k_ hk_),(Kd.freshB (g:=Yq) (by (with_reducible repeat (first|refine Q4 ?_ _|refine Q7 ?_|refine Q2 ?_ _));exact QP.out) k_ hk_)⟩)) (Qh (by repeat (first|(with_reducible first|exact HB.out|apply Q3|apply Q1|apply Q6|refine Q5 ?_ Yc.out|refine Q5 ?_ Yk.out)|exact HB.out))));have n2_:=Q0.mk (Qg (g:=QE) (by (with_reducible repeat (first|refine Q4 ?_ _|refine Q7 ?_|refine Q2 ?_ _));exact Ql.out) hb);have n3_:=Q0.mk (Qg (g:=Yq) (by (with_reducible repeat (first|refine Q4 ?_ _|refine Q7 ?_|refine Q2 ?_ _));exact QP.out) hb);have n4_:=Q0.mk (Qk (by repeat (first|(with_reducible first|exact HB.out|apply Q3|apply Q1|apply Q6|refine Q5 ?_ Yc.out|refine Q5 ?_ Yk.out)|exact HB.out)) hb);clear HO_13 Ql QP HB;have HO_13:=n0_;have Gb:=n1_;have Ql:=n2_;have QP:=n3_;have HB:=n4_;clear n0_ n1_ n2_ n3_ n4_;(try clear hb);(try clear hb2);(try clear hk);(try clear hi);(try clear ho0))))
          go_ret
          exact ⟨by first|rfl|(simp [Qz,QA]<;>rfl)|(simp [*,Qz,QA]<;>rfl),by repeat (first|(with_reducible first|exact HB.out|apply Q3|apply Q1|apply Q6|refine Q5 ?_ Yc.out|refine Q5 ?_ Yk.out)|exact HB.out)⟩
       case rest =>
        clear qvQ;(try clear c1);(try clear p1);(try clear q1);(try clear hx1);(try clear qi1);(try clear c2);(try clear p2);(try clear c3);(try clear c4);(try clear c5);(try clear c6);(try clear p6);(try clear c7);(try clear c8);(try clear c9);(try clear c10);(try clear p10);(try clear q10);(try clear qlR);(try clear quj);(try clear c12);(try clear c12b0);(try clear c12b1);(try clear c14);(try clear c15);(try clear c17);(try clear c17b0);(try clear c17b1);(try clear c19);(try clear c22);(try clear c23);(try clear c23b0);(try clear c23b1);(try clear c24);(try clear c24b0);(try clear c24b1);(try clear c25);(try clear c25b0);(try clear c25b1);(try clear c26);(try clear c26b0);(try clear c26b1);(try clear c32);(try clear c32b0);(try clear c32b1);(try clear c33);(try clear c33b0);(try clear c33b1);(try clear c35);(try clear c40);(try clear c40b0);(try clear c40b1);(try clear c42);(try clear c44);(try clear c44b0);(try clear c44b1);(try clear c47);(try clear c49);(try clear c51);(try clear c53);(try clear c55);(try clear c57);(try clear c59);(try clear c59b0);(try clear c59b1);(try clear c60);(try clear c60b0);(try clear c60b1);(try clear c60b2);(try clear c61);(try clear c61b0);(try clear c62);(try clear c62b0);(try clear c63);(try clear c63b0);(try clear c64);(try clear c64b0);(try clear p64);(try clear c65);(try clear c65b0);(try clear c66);(try clear c71);(try clear c76);(try clear c80);(try clear ZS);(try clear ZT);(try clear ZX);(try clear JO);(try clear JP);(try clear JX);(try clear Oe);(try clear Of);(try clear Og);(try clear qbK);(try clear qbL);(try clear XY);(try clear XZ);(try clear qaa);(try clear W8);(try clear W9);(try clear Wa);(try clear qc9);(try clear qda);(try clear qdb);(try clear qe2);(try clear qe3);(try clear qe4);(try clear qe5);(try clear qe6);(try clear qe7);(try clear qe8);(try clear qe9);(try clear qfa);(try clear qdc);(try clear qdd);(try clear qde);(try clear qfb);(try clear qfc);(try clear qfd);(try clear qab);(try clear qac);(try clear qad);(try clear qdf);(try clear qfe);(try clear qih);(try clear qii);(try clear qij);(try clear qik);(try clear ZU);(try clear ZV);(try clear ZY);(try clear JQ);(try clear JU);(try clear JY);(try clear Oh);(try clear Oi);(try clear Oj);(try clear qbP);(try clear qbQ);(try clear qam);(try clear qan);(try clear qao);(try clear Wh);(try clear Wi);(try clear Wj);(try clear qdl);(try clear qdm);(try clear qdn);(try clear qfm);(try clear qfn);(try clear qfo);(try clear qfp);(try clear qfq);(try clear qfr);(try clear qfs);(try clear qft);(try clear qfu);(try clear qdo);(try clear qdp);(try clear qdq);(try clear qfv);(try clear qfw);(try clear qfx);(try clear qap);(try clear qaq);(try clear qar);(try clear qdr);(try clear qfy);(try clear qiH);(try clear qiI);(try clear qiJ);(try clear qiK);(try clear Jy);(try clear Jz);(try clear UO);(try clear J0);(try clear J1);(try clear J2);(try clear J3);(try clear J4);(try clear p1);(try clear p10);(try clear UW);(try clear UX);(try clear Kr);(try clear Ks);(try clear p2);(try clear p6);(try clear q1);(try clear q10);(try clear UY);(try clear UZ);(try clear Kt);(try clear Ku);obtain ⟨kq,WS,rfl,HA,qeJ,HO_13,Ql,QP,HB⟩:=hcut
        cases kq with
        | zero=>exact absurd HA.out (by simp [Qc.j3])
        | succ qA2 =>
         have H:=HA.out;clear HA;simp only [Qc.j3] at H;have H':=Q0.mk H;clear H
         go_wp2
         repeat (go_quiet (fail);try go_wp2)
         go_loopg [18] qA2 (fun kq v18 w' => ∃ (Zc:Int),v18 = .int .i64 Zc∧Q0 (Qc.l0 kq Yt Z6 WS YA ZZ Zp ((QC (Qs Qb 0) 0).length:Int) Zc Qa Qf Qb=some r)∧Q0 (kq≤qA2)∧Q0 (Kd.V (Kd.int .i64) 3 w' w.heap.size (fun k_=>k_≠QE∧k_≠Yq) qgO Zp)∧Q0 (w'.heap[QE]? = some (.cells #[(.slice QD Qa.length Qu),(.slice QB Qf.length Qv),(.slice (some Zb) Qb.length Qw)] 47 (0,0)))∧Q0 (w'.heap[Yq]? = some (.cells #[.int .i64 Jb,.int .i64 J8] 23 (0,0)))∧Q0 (Below w.heap.size w w'))
         case atStart=>exact ⟨(0),(by first|rfl|(simp;done)|(simp [*];done)),H',⟨Nat.le_refl _⟩,⟨by (with_reducible repeat (first|apply Kd.V_alloc|apply Kd.V_drewN|apply Kd.V_drew));exact HO_13.out⟩,⟨by (with_reducible repeat (first|refine Q4 ?_ _|refine Q7 ?_|refine Q2 ?_ _));exact Ql.out⟩,⟨by (with_reducible repeat (first|refine Q4 ?_ _|refine Q7 ?_|refine Q2 ?_ _));exact QP.out⟩,⟨by repeat (first|(with_reducible first|exact HB.out|apply Q3|apply Q1|apply Q6|refine Q5 ?_ Yc.out|refine Q5 ?_ Yk.out)|exact HB.out)⟩⟩
         case round =>
          clear H';(try clear c1);(try clear p1);(try clear q1);(try clear hx1);(try clear qi1);(try clear c2);(try clear p2);(try clear c3);(try clear c4);(try clear c5);(try clear c6);(try clear p6);(try clear c7);(try clear c8);(try clear c9);(try clear c10);(try clear p10);(try clear q10);(try clear qlR);(try clear quj);(try clear c12);(try clear c12b0);(try clear c12b1);(try clear c14);(try clear c15);(try clear c17);(try clear c17b0);(try clear c17b1);(try clear c19);(try clear c22);(try clear c23);(try clear c23b0);(try clear c23b1);(try clear c24);(try clear c24b0);(try clear c24b1);(try clear c25);(try clear c25b0);(try clear c25b1);(try clear c26);(try clear c26b0);(try clear c26b1);(try clear c32);(try clear c32b0);(try clear c32b1);(try clear c33);(try clear c33b0);(try clear c33b1);(try clear c35);(try clear c40);(try clear c40b0);(try clear c40b1);(try clear c42);(try clear c44);(try clear c44b0);(try clear c44b1);(try clear c47);(try clear c49);(try clear c51);(try clear c53);(try clear c55);(try clear c57);(try clear c59);(try clear c59b0);(try clear c59b1);(try clear c60);(try clear c60b0);(try clear c60b1);(try clear c60b2);(try clear c61);(try clear c61b0);(try clear c62);(try clear c62b0);(try clear c63);(try clear c63b0);(try clear c64);(try clear c64b0);(try clear p64);(try clear c65);(try clear c65b0);(try clear c66);(try clear c71);(try clear c76);(try clear c80);(try clear ZS);(try clear ZT);(try clear ZX);(try clear JO);(try clear JP);(try clear JX);(try clear Oe);(try clear Of);(try clear Og);(try clear qbK);(try clear qbL);(try clear XY);(try clear XZ);(try clear qaa);(try clear W8);(try clear W9);(try clear Wa);(try clear qc9);(try clear qda);(try clear qdb);(try clear qe2);(try clear qe3);(try clear qe4);(try clear qe5);(try clear qe6);(try clear qe7);(try clear qe8);(try clear qe9);(try clear qfa);(try clear qdc);(try clear qdd);(try clear qde);(try clear qfb);(try clear qfc);(try clear qfd);(try clear qab);(try clear qac);(try clear qad);(try clear qdf);(try clear qfe);(try clear qih);(try clear qii);(try clear qij);(try clear qik);(try clear ZU);(try clear ZV);(try clear ZY);(try clear JQ);(try clear JU);(try clear JY);(try clear Oh);(try clear Oi);(try clear Oj);(try clear qbP);(try clear qbQ);(try clear qam);(try clear qan);(try clear qao);(try clear Wh);(try clear Wi);(try clear Wj);(try clear qdl);(try clear qdm);(try clear qdn);(try clear qfm);(try clear qfn);(try clear qfo);(try clear qfp);(try clear qfq);(try clear qfr);(try clear qfs);(try clear qft);(try clear qfu);(try clear qdo);(try clear qdp);(try clear qdq);(try clear qfv);(try clear qfw);(try clear qfx);(try clear qap);(try clear qaq);(try clear qar);(try clear qdr);(try clear qfy);(try clear qiH);(try clear qiI);(try clear qiJ);(try clear qiK);(try clear Jy);(try clear Jz);(try clear UO);(try clear J0);(try clear J1);(try clear J2);(try clear J3);(try clear J4);(try clear p1);(try clear p10);(try clear UW);(try clear UX);(try clear Kr);(try clear Ks);(try clear p2);(try clear p6);(try clear p64);(try clear q1);(try clear q10);(try clear UY);(try clear UZ);(try clear Kt);(try clear Ku);obtain ⟨Zc,rfl,HA,HK4,HO_13,Ql,QP,HB⟩:=hrel
          cases gk with
          | zero=>exact absurd HA.out (by simp [Qc.l0])
          | succ k4 =>
           have H:=HA.out;clear HA;simp only [Qc.l0] at H;have qvS:=Q0.mk H;clear H
           go_upto_region 18 with (fail)
           repeat (go_quiet (fail);go_upto_region 18 with (fail))
           go_cut [155] (fun qIg wc => ∃ (kq:Nat) (qfX:Bool),qIg = .bool qfX∧Q0 (Qc.j5 kq Yt Z6 WS YA ZZ Zp ((QC (Qs Qb 0) 0).length:Int) Zc qfX Qa Qf Qb=some r)∧Q0 (kq≤k4)∧Q0 (Kd.V (Kd.int .i64) 3 wc w.heap.size (fun k_=>k_≠QE∧k_≠Yq) qgO Zp)∧Q0 (wc.heap[QE]? = some (.cells #[(.slice QD Qa.length Qu),(.slice QB Qf.length Qv),(.slice (some Zb) Qb.length Qw)] 47 (0,0)))∧Q0 (wc.heap[Yq]? = some (.cells #[.int .i64 Jb,.int .i64 J8] 23 (0,0)))∧Q0 (Below w.heap.size w wc))
           case first =>
            have H:=qvS.out;clear qvS
            by_cases c84:Zc<((QC (Qs Qb 0) 0).length:Int)
            ·
             rw [if_pos c84] at H;have c84b0:decide (Zc<((QC (Qs Qb 0) 0).length:Int))=true:=decide_eq_true c84;clear c84
             (first|rw [c84b0]|(simp only [QL,QO];rw [c84b0])|skip)
             have H':=Q0.mk H;clear H
             go_wp2
             repeat (go_quiet (fail);try go_wp2)
             go_meet
             case rel=>exact ⟨_,(decide (Zc≤WS)),(by first|rfl|(simp;done)|(simp [*];done)),H',⟨by have:=HJ5.out;have:=W4.out;have:=qeJ.out;have:=HK4.out;first|omega|exact Nat.le_refl _⟩,⟨by (with_reducible repeat (first|apply Kd.V_alloc|apply Kd.V_drewN|apply Kd.V_drew));exact HO_13.out⟩,⟨by (with_reducible repeat (first|refine Q4 ?_ _|refine Q7 ?_|refine Q2 ?_ _));exact Ql.out⟩,⟨by (with_reducible repeat (first|refine Q4 ?_ _|refine Q7 ?_|refine Q2 ?_ _));exact QP.out⟩,⟨by repeat (first|(with_reducible first|exact HB.out|apply Q3|apply Q1|apply Q6|refine Q5 ?_ Yc.out|refine Q5 ?_ Yk.out)|exact HB.out)⟩⟩
            rw [if_neg c84] at H;have c84b0:decide (Zc<((QC (Qs Qb 0) 0).length:Int))=false:=decide_eq_false c84;clear c84
            (first|rw [c84b0]|(simp only [QL,QO];rw [c84b0])|skip)
            have H':=Q0.mk H;clear H
            go_wp2
            repeat (go_quiet (fail);try go_wp2)
            go_meet
            case rel=>exact ⟨_,(false),(by first|rfl|(simp;done)|(simp [*];done)),H',⟨by have:=HJ5.out;have:=W4.out;have:=qeJ.out;have:=HK4.out;first|omega|exact Nat.le_refl _⟩,⟨by (with_reducible repeat (first|apply Kd.V_alloc|apply Kd.V_drewN|apply Kd.V_drew));exact HO_13.out⟩,⟨by (with_reducible repeat (first|refine Q4 ?_ _|refine Q7 ?_|refine Q2 ?_ _));exact Ql.out⟩,⟨by (with_reducible repeat (first|refine Q4 ?_ _|refine Q7 ?_|refine Q2 ?_ _));exact QP.out⟩,⟨by repeat (first|(with_reducible first|exact HB.out|apply Q3|apply Q1|apply Q6|refine Q5 ?_ Yc.out|refine Q5 ?_ Yk.out)|exact HB.out)⟩⟩
           case rest =>
            clear qvS;(try clear c1);(try clear p1);(try clear q1);(try clear hx1);(try clear qi1);(try clear c2);(try clear p2);(try clear c3);(try clear c4);(try clear c5);(try clear c6);(try clear p6);(try clear c7);(try clear c8);(try clear c9);(try clear c10);(try clear p10);(try clear q10);(try clear qlR);(try clear quj);(try clear c12);(try clear c12b0);(try clear c12b1);(try clear c14);(try clear c15);(try clear c17);(try clear c17b0);(try clear c17b1);(try clear c19);(try clear c22);(try clear c23);(try clear c23b0);(try clear c23b1);(try clear c24);(try clear c24b0);(try clear c24b1);(try clear c25);(try clear c25b0);(try clear c25b1);(try clear c26);(try clear c26b0);(try clear c26b1);(try clear c32);(try clear c32b0);(try clear c32b1);(try clear c33);(try clear c33b0);(try clear c33b1);(try clear c35);(try clear c40);(try clear c40b0);(try clear c40b1);(try clear c42);(try clear c44);(try clear c44b0);(try clear c44b1);(try clear c47);(try clear c49);(try clear c51);(try clear c53);(try clear c55);(try clear c57);(try clear c59);(try clear c59b0);(try clear c59b1);(try clear c60);(try clear c60b0);(try clear c60b1);(try clear c60b2);(try clear c61);(try clear c61b0);(try clear c62);(try clear c62b0);(try clear c63);(try clear c63b0);(try clear c64);(try clear c64b0);(try clear p64);(try clear c65);(try clear c65b0);(try clear c66);(try clear c71);(try clear c76);(try clear c80);(try clear c84);(try clear c84b0);(try clear ZS);(try clear ZT);(try clear ZX);(try clear JO);(try clear JP);(try clear JX);(try clear Oe);(try clear Of);(try clear Og);(try clear qbK);(try clear qbL);(try clear XY);(try clear XZ);(try clear qaa);(try clear W8);(try clear W9);(try clear Wa);(try clear qc9);(try clear qda);(try clear qdb);(try clear qe2);(try clear qe3);(try clear qe4);(try clear qe5);(try clear qe6);(try clear qe7);(try clear qe8);(try clear qe9);(try clear qfa);(try clear qdc);(try clear qdd);(try clear qde);(try clear qfb);(try clear qfc);(try clear qfd);(try clear qab);(try clear qac);(try clear qad);(try clear qdf);(try clear qfe);(try clear qih);(try clear qii);(try clear qij);(try clear qik);(try clear ZU);(try clear ZV);(try clear ZY);(try clear JQ);(try clear JU);(try clear JY);(try clear Oh);(try clear Oi);(try clear Oj);(try clear qbP);(try clear qbQ);(try clear qam);(try clear qan);(try clear qao);(try clear Wh);(try clear Wi);(try clear Wj);(try clear qdl);(try clear qdm);(try clear qdn);(try clear qfm);(try clear qfn);(try clear qfo);(try clear qfp);(try clear qfq);(try clear qfr);(try clear qfs);(try clear qft);(try clear qfu);(try clear qdo);(try clear qdp);(try clear qdq);(try clear qfv);(try clear qfw);(try clear qfx);(try clear qap);(try clear qaq);(try clear qar);(try clear qdr);(try clear qfy);(try clear qiH);(try clear qiI);(try clear qiJ);(try clear qiK);(try clear Jy);(try clear Jz);(try clear UO);(try clear J0);(try clear J1);(try clear J2);(try clear J3);(try clear J4);(try clear p1);(try clear p10);(try clear UW);(try clear UX);(try clear Kr);(try clear Ks);(try clear p2);(try clear p6);(try clear p64);(try clear q1);(try clear q10);(try clear UY);(try clear UZ);(try clear Kt);(try clear Ku);obtain ⟨kq,qfX,rfl,HA,qgW,HO_13,Ql,QP,HB⟩:=hcut
            cases kq with
            | zero=>exact absurd HA.out (by simp [Qc.j5])
            | succ qgY =>
             have H:=HA.out;clear HA;simp only [Qc.j5] at H
             by_cases c85:qfX=true
             ·
              as_aux_lemma =>
              subst c85
              have H1:(if Zc<WS then (if 0≤Zc then (if Zc<(Zp.length:Int) then (if 0≤YA then (if YA<(Qa.length:Int) then (if (rd Zp Zc)<((Qe Qa YA).f3) then (some false) else (Qc.l0 qgY Yt Z6 WS YA ZZ Zp ((QC (Qs Qb 0) 0).length:Int) (wrap64 (Zc+1)) Qa Qf Qb)) else (none)) else (none)) else (none)) else (none)) else (if YA<Yt then (if 0≤Zc then (if Zc<(Zp.length:Int) then (if 0≤YA then (if YA<(Qa.length:Int) then (if (rd Zp Zc)<((Qe Qa YA).f3) then (some false) else (Qc.l0 qgY Yt Z6 WS YA ZZ Zp ((QC (Qs Qb 0) 0).length:Int) (wrap64 (Zc+1)) Qa Qf Qb)) else (none)) else (none)) else (none)) else (none)) else (if YA=Yt then (if ZZ<Z6 then (if 0≤Zc then (if Zc<(Zp.length:Int) then (if 0≤YA then (if YA<(Qa.length:Int) then (if (rd Zp Zc)<((Qe Qa YA).f3) then (some false) else (Qc.l0 qgY Yt Z6 WS YA ZZ Zp ((QC (Qs Qb 0) 0).length:Int) (wrap64 (Zc+1)) Qa Qf Qb)) else (none)) else (none)) else (none)) else (none)) else (Qc.l0 qgY Yt Z6 WS YA ZZ Zp ((QC (Qs Qb 0) 0).length:Int) (wrap64 (Zc+1)) Qa Qf Qb)) else (Qc.l0 qgY Yt Z6 WS YA ZZ Zp ((QC (Qs Qb 0) 0).length:Int) (wrap64 (Zc+1)) Qa Qf Qb))))=some r:=by rw [if_pos rfl] at H;exact H
              clear H;have H:=H1;clear H1
              by_cases c86:Zc<WS
              ·
               as_aux_lemma =>
               rw [if_pos c86] at H;have c86b0:decide (Zc<WS)=true:=decide_eq_true c86;clear c86
               by_cases c87:0≤Zc
               ·
                as_aux_lemma =>
                rw [if_pos c87] at H;have c87b0:decide (0≤Zc)=true:=decide_eq_true c87;clear c87
                by_cases c88:Zc<(Zp.length:Int)
                ·
                 as_aux_lemma =>
                 rw [if_pos c88] at H;have c88b0:decide (Zc<(Zp.length:Int))=true:=decide_eq_true c88;clear c88
                 by_cases c89:0≤YA
                 ·
                  as_aux_lemma =>
                  rw [if_pos c89] at H;have c89b0:decide (0≤YA)=true:=decide_eq_true c89;clear c89
                  by_cases c90:YA<(Qa.length:Int)
                  ·
                   as_aux_lemma =>
                   rw [if_pos c90] at H;have c90b0:decide (YA<(Qa.length:Int))=true:=decide_eq_true c90;clear c90
                   by_cases c91:(rd Zp Zc)<((Qe Qa YA).f3)
                   ·
                    as_aux_lemma =>
                    rw [if_pos c91] at H;have c91b0:decide ((rd Zp Zc)<((Qe Qa YA).f3))=true:=decide_eq_true c91;clear c91;obtain rfl:=Option.some.inj H;obtain ⟨qKz,qKC,qHv⟩:=Kd.V_slice HO_13.out;subst qHv;have qgp:0≤(Zc:Int):=of_decide_eq_true (by first|(with_reducible assumption)|assumption);have qgx:Zc<(Zp.length:Int):=of_decide_eq_true (by first|(with_reducible assumption)|assumption);obtain ⟨qvV,qql,qq6⟩:=Kd.at_int (Kd.V_reads' HO_13.out).2.2 Zc qgp qgx;cases qql;replace qgp:=eq_true qgp;replace qgx:=eq_true qgx;have qAz:=Zr.out;have qAT:=Zs.out;have qtc:wc.cell? ⟨QE,0,none⟩=some (.slice QD Qa.length Qu):=(Q9 Ql.out 0).trans rfl;have qtd:wc.cell? ⟨QE,1,none⟩=some (.slice QB Qf.length Qv):=(Q9 Ql.out 1).trans rfl;have qte:wc.cell? ⟨QE,2,none⟩=some (.slice (some Zb) Qb.length Qw):=(Q9 Ql.out 2).trans rfl;have qtK:=Q8 Ql.out 0;have qtL:=Q8 Ql.out 1;have qtM:=Q8 Ql.out 2;have qgq:0≤(YA:Int):=of_decide_eq_true (by first|(with_reducible assumption)|assumption);have qgy:YA<(Qa.length:Int):=of_decide_eq_true (by first|(with_reducible assumption)|assumption);obtain ⟨qvW,qrO,qsr,qrP,qss,qrQ,qst,qqn,Wu,Wv,Ww,Wx,Wy,qbj,qba,qbk,qbb,qbl,qbc⟩:=KR YV.out YA qgq qgy;cases qqn;replace Wu:=(HB.out.cell (World.block_lt_of_cell? w _ Wu)).trans Wu;replace Wv:=(HB.out.cell (World.block_lt_of_cell? w _ Wv)).trans Wv;replace Ww:=(HB.out.cell (World.block_lt_of_cell? w _ Ww)).trans Ww;replace Wx:=(HB.out.cell (World.block_lt_of_cell? w _ Wx)).trans Wx;replace Wy:=(HB.out.cell (World.block_lt_of_cell? w _ Wy)).trans Wy;have qpO:=Q0.mk qba;have qpC:=Q0.mk qbj;clear qba qbj;have qpP:=Q0.mk qbb;have qpD:=Q0.mk qbk;clear qbb qbk;have qpQ:=Q0.mk qbc;have qpE:=Q0.mk qbl;clear qbc qbl;replace qgq:=eq_true qgq;replace qgy:=eq_true qgy
                    go_wp2
                    repeat (go_quiet (fail);try go_wp2)
                    go_ret
                    exact ⟨by first|rfl|(simp [Qz,QA]<;>rfl)|(simp [*,Qz,QA]<;>rfl),by repeat (first|(with_reducible first|exact HB.out|apply Q3|apply Q1|apply Q6|refine Q5 ?_ Yc.out|refine Q5 ?_ Yk.out)|exact HB.out)⟩
                   as_aux_lemma =>
                   rw [if_neg c91] at H;have c91b0:decide ((rd Zp Zc)<((Qe Qa YA).f3))=false:=decide_eq_false c91;clear c91;have H':=Q0.mk H;clear H;obtain ⟨qKA,qKD,qHw⟩:=Kd.V_slice HO_13.out;subst qHw;have qgp:0≤(Zc:Int):=of_decide_eq_true (by first|(with_reducible assumption)|assumption);have qgx:Zc<(Zp.length:Int):=of_decide_eq_true (by first|(with_reducible assumption)|assumption);obtain ⟨qvV,qql,qq6⟩:=Kd.at_int (Kd.V_reads' HO_13.out).2.2 Zc qgp qgx;cases qql;replace qgp:=eq_true qgp;replace qgx:=eq_true qgx;have qJU:=Zr.out;have qKs:=Zs.out;have qC8:wc.cell? ⟨QE,0,none⟩=some (.slice QD Qa.length Qu):=(Q9 Ql.out 0).trans rfl;have qC9:wc.cell? ⟨QE,1,none⟩=some (.slice QB Qf.length Qv):=(Q9 Ql.out 1).trans rfl;have qDa:wc.cell? ⟨QE,2,none⟩=some (.slice (some Zb) Qb.length Qw):=(Q9 Ql.out 2).trans rfl;have qEY:=Q8 Ql.out 0;have qEZ:=Q8 Ql.out 1;have qE0:=Q8 Ql.out 2;have qgq:0≤(YA:Int):=of_decide_eq_true (by first|(with_reducible assumption)|assumption);have qgy:YA<(Qa.length:Int):=of_decide_eq_true (by first|(with_reducible assumption)|assumption);obtain ⟨qvW,qrO,qsr,qrP,qss,qrQ,qst,qqn,Wu,Wv,Ww,Wx,Wy,qbj,qba,qbk,qbb,qbl,qbc⟩:=KR YV.out YA qgq qgy;cases qqn;replace Wu:=(HB.out.cell (World.block_lt_of_cell? w _ Wu)).trans Wu;replace Wv:=(HB.out.cell (World.block_lt_of_cell? w _ Wv)).trans Wv;replace Ww:=(HB.out.cell (World.block_lt_of_cell? w _ Ww)).trans Ww;replace Wx:=(HB.out.cell (World.block_lt_of_cell? w _ Wx)).trans Wx;replace Wy:=(HB.out.cell (World.block_lt_of_cell? w _ Wy)).trans Wy;have qpO:=Q0.mk qba;have qpC:=Q0.mk qbj;clear qba qbj;have qpP:=Q0.mk qbb;have qpD:=Q0.mk qbk;clear qbb qbk;have qpQ:=Q0.mk qbc;have qpE:=Q0.mk qbl;clear qbc qbl;replace qgq:=eq_true qgq;replace qgy:=eq_true qgy
                   go_wp2
                   repeat (go_quiet (fail);try go_wp2)
                   go_roundg qgY
                   case measure=>have:=HJ5.out;have:=W4.out;have:=qeJ.out;have:=HK4.out;have:=qgW.out;omega
                   case rel=>exact ⟨(wrap64 (Zc+1)),(by first|rfl|(simp;done)|(simp [*];done)),H',⟨by have:=HJ5.out;have:=W4.out;have:=qeJ.out;have:=HK4.out;have:=qgW.out;omega⟩,⟨by (with_reducible repeat (first|apply Kd.V_alloc|apply Kd.V_drewN|apply Kd.V_drew));exact HO_13.out⟩,⟨by (with_reducible repeat (first|refine Q4 ?_ _|refine Q7 ?_|refine Q2 ?_ _));exact Ql.out⟩,⟨by (with_reducible repeat (first|refine Q4 ?_ _|refine Q7 ?_|refine Q2 ?_ _));exact QP.out⟩,⟨by repeat (first|(with_reducible first|exact HB.out|apply Q3|apply Q1|apply Q6|refine Q5 ?_ Yc.out|refine Q5 ?_ Yk.out)|exact HB.out)⟩⟩
                  rw [if_neg c90] at H
                  exact absurd H (by simp)
                 rw [if_neg c89] at H
                 exact absurd H (by simp)
                rw [if_neg c88] at H
                exact absurd H (by simp)
               rw [if_neg c87] at H
               exact absurd H (by simp)
              as_aux_lemma =>
              rw [if_neg c86] at H;have c86b0:decide (Zc<WS)=false:=decide_eq_false c86;clear c86
              by_cases c98:YA<Yt
              ·
               as_aux_lemma =>
               rw [if_pos c98] at H;have c98b0:decide (YA<Yt)=true:=decide_eq_true c98;clear c98
               by_cases c99:0≤Zc
               ·
                as_aux_lemma =>
                rw [if_pos c99] at H;have c99b0:decide (0≤Zc)=true:=decide_eq_true c99;clear c99
                by_cases qso:Zc<(Zp.length:Int)
                ·
                 as_aux_lemma =>
                 rw [if_pos qso] at H;have c100b0:decide (Zc<(Zp.length:Int))=true:=decide_eq_true qso;clear qso
                 by_cases qsp:0≤YA
                 ·
                  as_aux_lemma =>
                  rw [if_pos qsp] at H;have c101b0:decide (0≤YA)=true:=decide_eq_true qsp;clear qsp
                  by_cases qsq:YA<(Qa.length:Int)
                  ·
                   as_aux_lemma =>
                   rw [if_pos qsq] at H;have c102b0:decide (YA<(Qa.length:Int))=true:=decide_eq_true qsq;clear qsq
                   by_cases qot:(rd Zp Zc)<((Qe Qa YA).f3)
                   ·
                    as_aux_lemma =>
                    rw [if_pos qot] at H;have c103b0:decide ((rd Zp Zc)<((Qe Qa YA).f3))=true:=decide_eq_true qot;clear qot;obtain rfl:=Option.some.inj H;obtain ⟨qIo,qIV,qyI⟩:=Kd.V_slice HO_13.out;subst qyI;have qgr:0≤(Zc:Int):=of_decide_eq_true (by first|(with_reducible assumption)|assumption);have qgz:Zc<(Zp.length:Int):=of_decide_eq_true (by first|(with_reducible assumption)|assumption);obtain ⟨qvX,qqo,qq7⟩:=Kd.at_int (Kd.V_reads' HO_13.out).2.2 Zc qgr qgz;cases qqo;replace qgr:=eq_true qgr;replace qgz:=eq_true qgz;have qwE:=Zr.out;have qwF:=Zs.out;have qqP:wc.cell? ⟨QE,0,none⟩=some (.slice QD Qa.length Qu):=(Q9 Ql.out 0).trans rfl;have qqQ:wc.cell? ⟨QE,1,none⟩=some (.slice QB Qf.length Qv):=(Q9 Ql.out 1).trans rfl;have qqR:wc.cell? ⟨QE,2,none⟩=some (.slice (some Zb) Qb.length Qw):=(Q9 Ql.out 2).trans rfl;have qqT:=Q8 Ql.out 0;have qqU:=Q8 Ql.out 1;have qqV:=Q8 Ql.out 2;have qgs:0≤(YA:Int):=of_decide_eq_true (by first|(with_reducible assumption)|assumption);have qgA:YA<(Qa.length:Int):=of_decide_eq_true (by first|(with_reducible assumption)|assumption);obtain ⟨qvY,qrR,qsu,qrS,qsv,qrT,qsw,qqp,Wz,WA,WB,WC,WE,qbm,qbd,qbn,qbe,qbo,qbf⟩:=KR YV.out YA qgs qgA;cases qqp;replace Wz:=(HB.out.cell (World.block_lt_of_cell? w _ Wz)).trans Wz;replace WA:=(HB.out.cell (World.block_lt_of_cell? w _ WA)).trans WA;replace WB:=(HB.out.cell (World.block_lt_of_cell? w _ WB)).trans WB;replace WC:=(HB.out.cell (World.block_lt_of_cell? w _ WC)).trans WC;replace WE:=(HB.out.cell (World.block_lt_of_cell? w _ WE)).trans WE;have qpR:=Q0.mk qbd;have qpF:=Q0.mk qbm;clear qbd qbm;have qpS:=Q0.mk qbe;have qpG:=Q0.mk qbn;clear qbe qbn;have qpT:=Q0.mk qbf;have qpH:=Q0.mk qbo;clear qbf qbo;replace qgs:=eq_true qgs;replace qgA:=eq_true qgA
                    go_wp2
                    repeat (go_quiet (fail);try go_wp2)
                    go_ret
                    exact ⟨by first|rfl|(simp [Qz,QA]<;>rfl)|(simp [*,Qz,QA]<;>rfl),by repeat (first|(with_reducible first|exact HB.out|apply Q3|apply Q1|apply Q6|refine Q5 ?_ Yc.out|refine Q5 ?_ Yk.out)|exact HB.out)⟩
                   as_aux_lemma =>
                   rw [if_neg qot] at H;have c103b0:decide ((rd Zp Zc)<((Qe Qa YA).f3))=false:=decide_eq_false qot;clear qot;have H':=Q0.mk H;clear H;obtain ⟨qIp,qIW,qyJ⟩:=Kd.V_slice HO_13.out;subst qyJ;have qgr:0≤(Zc:Int):=of_decide_eq_true (by first|(with_reducible assumption)|assumption);have qgz:Zc<(Zp.length:Int):=of_decide_eq_true (by first|(with_reducible assumption)|assumption);obtain ⟨qvX,qqo,qq7⟩:=Kd.at_int (Kd.V_reads' HO_13.out).2.2 Zc qgr qgz;cases qqo;replace qgr:=eq_true qgr;replace qgz:=eq_true qgz;have qHN:=Zr.out;have qHZ:=Zs.out;have qzg:wc.cell? ⟨QE,0,none⟩=some (.slice QD Qa.length Qu):=(Q9 Ql.out 0).trans rfl;have qzh:wc.cell? ⟨QE,1,none⟩=some (.slice QB Qf.length Qv):=(Q9 Ql.out 1).trans rfl;have qzi:wc.cell? ⟨QE,2,none⟩=some (.slice (some Zb) Qb.length Qw):=(Q9 Ql.out 2).trans rfl;have qzQ:=Q8 Ql.out 0;have qzR:=Q8 Ql.out 1;have qzS:=Q8 Ql.out 2;have qgs:0≤(YA:Int):=of_decide_eq_true (by first|(with_reducible assumption)|assumption);have qgA:YA<(Qa.length:Int):=of_decide_eq_true (by first|(with_reducible assumption)|assumption);obtain ⟨qvY,qrR,qsu,qrS,qsv,qrT,qsw,qqp,Wz,WA,WB,WC,WE,qbm,qbd,qbn,qbe,qbo,qbf⟩:=KR YV.out YA qgs qgA;cases qqp;replace Wz:=(HB.out.cell (World.block_lt_of_cell? w _ Wz)).trans Wz;replace WA:=(HB.out.cell (World.block_lt_of_cell? w _ WA)).trans WA;replace WB:=(HB.out.cell (World.block_lt_of_cell? w _ WB)).trans WB;replace WC:=(HB.out.cell (World.block_lt_of_cell? w _ WC)).trans WC;replace WE:=(HB.out.cell (World.block_lt_of_cell? w _ WE)).trans WE;have qpR:=Q0.mk qbd;have qpF:=Q0.mk qbm;clear qbd qbm;have qpS:=Q0.mk qbe;have qpG:=Q0.mk qbn;clear qbe qbn;have qpT:=Q0.mk qbf;have qpH:=Q0.mk qbo;clear qbf qbo;replace qgs:=eq_true qgs;replace qgA:=eq_true qgA
                   go_wp2
                   repeat (go_quiet (fail);try go_wp2)
                   go_roundg qgY
                   case measure=>have:=HJ5.out;have:=W4.out;have:=qeJ.out;have:=HK4.out;have:=qgW.out;omega
                   case rel=>exact ⟨(wrap64 (Zc+1)),(by first|rfl|(simp;done)|(simp [*];done)),H',⟨by have:=HJ5.out;have:=W4.out;have:=qeJ.out;have:=HK4.out;have:=qgW.out;omega⟩,⟨by (with_reducible repeat (first|apply Kd.V_alloc|apply Kd.V_drewN|apply Kd.V_drew));exact HO_13.out⟩,⟨by (with_reducible repeat (first|refine Q4 ?_ _|refine Q7 ?_|refine Q2 ?_ _));exact Ql.out⟩,⟨by (with_reducible repeat (first|refine Q4 ?_ _|refine Q7 ?_|refine Q2 ?_ _));exact QP.out⟩,⟨by repeat (first|(with_reducible first|exact HB.out|apply Q3|apply Q1|apply Q6|refine Q5 ?_ Yc.out|refine Q5 ?_ Yk.out)|exact HB.out)⟩⟩
                  rw [if_neg qsq] at H
                  exact absurd H (by simp)
                 rw [if_neg qsp] at H
                 exact absurd H (by simp)
                rw [if_neg qso] at H
                exact absurd H (by simp)
               rw [if_neg c99] at H
               exact absurd H (by simp)
              as_aux_lemma =>
              rw [if_neg c98] at H;have c98b0:decide (YA<Yt)=false:=decide_eq_false c98;clear c98
              by_cases qlt:YA=Yt
              ·
               as_aux_lemma =>
               rw [if_pos qlt] at H;have c110b0:(YA==Yt)=true:=beq_iff_eq.mpr qlt;have c110b1:(YA != Yt)=false:=bne_eq_false_iff_eq.mpr qlt;clear qlt
               by_cases qou:ZZ<Z6
               ·
                as_aux_lemma =>
                rw [if_pos qou] at H;have c111b0:decide (ZZ<Z6)=true:=decide_eq_true qou;clear qou
                by_cases qsA:0≤Zc
                ·
                 as_aux_lemma =>
                 rw [if_pos qsA] at H;have c112b0:decide (0≤Zc)=true:=decide_eq_true qsA;clear qsA
                 by_cases qsB:Zc<(Zp.length:Int)
                 ·
                  as_aux_lemma =>
                  rw [if_pos qsB] at H;have c113b0:decide (Zc<(Zp.length:Int))=true:=decide_eq_true qsB;clear qsB
                  by_cases qsC:0≤YA
                  ·
                   as_aux_lemma =>
                   rw [if_pos qsC] at H;have c114b0:decide (0≤YA)=true:=decide_eq_true qsC;clear qsC
                   by_cases qsD:YA<(Qa.length:Int)
                   ·
                    as_aux_lemma =>
                    rw [if_pos qsD] at H;have c115b0:decide (YA<(Qa.length:Int))=true:=decide_eq_true qsD;clear qsD
                    by_cases c116:(rd Zp Zc)<((Qe Qa YA).f3)
                    ·
                     as_aux_lemma =>
                     rw [if_pos c116] at H;have c116b0:decide ((rd Zp Zc)<((Qe Qa YA).f3))=true:=decide_eq_true c116;clear c116;obtain rfl:=Option.some.inj H;obtain ⟨qIq,qIX,qyK⟩:=Kd.V_slice HO_13.out;subst qyK;have qgt:0≤(Zc:Int):=of_decide_eq_true (by first|(with_reducible assumption)|assumption);have qgB:Zc<(Zp.length:Int):=of_decide_eq_true (by first|(with_reducible assumption)|assumption);obtain ⟨qvZ,qqq,qq8⟩:=Kd.at_int (Kd.V_reads' HO_13.out).2.2 Zc qgt qgB;cases qqq;replace qgt:=eq_true qgt;replace qgB:=eq_true qgB;have qHS:=Zr.out;have qH4:=Zs.out;have qzA:wc.cell? ⟨QE,0,none⟩=some (.slice QD Qa.length Qu):=(Q9 Ql.out 0).trans rfl;have qzB:wc.cell? ⟨QE,1,none⟩=some (.slice QB Qf.length Qv):=(Q9 Ql.out 1).trans rfl;have qzC:wc.cell? ⟨QE,2,none⟩=some (.slice (some Zb) Qb.length Qw):=(Q9 Ql.out 2).trans rfl;have qAa:=Q8 Ql.out 0;have qAb:=Q8 Ql.out 1;have qAc:=Q8 Ql.out 2;have qgu:0≤(YA:Int):=of_decide_eq_true (by first|(with_reducible assumption)|assumption);have qgC:YA<(Qa.length:Int):=of_decide_eq_true (by first|(with_reducible assumption)|assumption);obtain ⟨qv0,qrU,qsx,qrV,qsy,qrW,qsz,qqr,WF,WG,WH,WI,WJ,qbp,qbg,qbq,qbh,qbr,qbi⟩:=KR YV.out YA qgu qgC;cases qqr;replace WF:=(HB.out.cell (World.block_lt_of_cell? w _ WF)).trans WF;replace WG:=(HB.out.cell (World.block_lt_of_cell? w _ WG)).trans WG;replace WH:=(HB.out.cell (World.block_lt_of_cell? w _ WH)).trans WH;replace WI:=(HB.out.cell (World.block_lt_of_cell? w _ WI)).trans WI;replace WJ:=(HB.out.cell (World.block_lt_of_cell? w _ WJ)).trans WJ;have qpU:=Q0.mk qbg;have qpI:=Q0.mk qbp;clear qbg qbp;have qpV:=Q0.mk qbh;have qpJ:=Q0.mk qbq;clear qbh qbq;have qpW:=Q0.mk qbi;have qpK:=Q0.mk qbr;clear qbi qbr;replace qgu:=eq_true qgu;replace qgC:=eq_true qgC
                     go_wp2
                     repeat (go_quiet (fail);try go_wp2)
                     go_ret
                     exact ⟨by first|rfl|(simp [Qz,QA]<;>rfl)|(simp [*,Qz,QA]<;>rfl),by repeat (first|(with_reducible first|exact HB.out|apply Q3|apply Q1|apply Q6|refine Q5 ?_ Yc.out|refine Q5 ?_ Yk.out)|exact HB.out)⟩
                    as_aux_lemma =>
                    rw [if_neg c116] at H;have c116b0:decide ((rd Zp Zc)<((Qe Qa YA).f3))=false:=decide_eq_false c116;clear c116;have H':=Q0.mk H;clear H;obtain ⟨qIr,qIY,qyL⟩:=Kd.V_slice HO_13.out;subst qyL;have qgt:0≤(Zc:Int):=of_decide_eq_true (by first|(with_reducible assumption)|assumption);have qgB:Zc<(Zp.length:Int):=of_decide_eq_true (by first|(with_reducible assumption)|assumption);obtain ⟨qvZ,qqq,qq8⟩:=Kd.at_int (Kd.V_reads' HO_13.out).2.2 Zc qgt qgB;cases qqq;replace qgt:=eq_true qgt;replace qgB:=eq_true qgB;have qHT:=Zr.out;have qH5:=Zs.out;have qzD:wc.cell? ⟨QE,0,none⟩=some (.slice QD Qa.length Qu):=(Q9 Ql.out 0).trans rfl;have qzE:wc.cell? ⟨QE,1,none⟩=some (.slice QB Qf.length Qv):=(Q9 Ql.out 1).trans rfl;have qzF:wc.cell? ⟨QE,2,none⟩=some (.slice (some Zb) Qb.length Qw):=(Q9 Ql.out 2).trans rfl;have qAd:=Q8 Ql.out 0;have qAe:=Q8 Ql.out 1;have qAf:=Q8 Ql.out 2;have qgu:0≤(YA:Int):=of_decide_eq_true (by first|(with_reducible assumption)|assumption);have qgC:YA<(Qa.length:Int):=of_decide_eq_true (by first|(with_reducible assumption)|assumption);obtain ⟨qv0,qrU,qsx,qrV,qsy,qrW,qsz,qqr,WF,WG,WH,WI,WJ,qbp,qbg,qbq,qbh,qbr,qbi⟩:=KR YV.out YA qgu qgC;cases qqr;replace WF:=(HB.out.cell (World.block_lt_of_cell? w _ WF)).trans WF;replace WG:=(HB.out.cell (World.block_lt_of_cell? w _ WG)).trans WG;replace WH:=(HB.out.cell (World.block_lt_of_cell? w _ WH)).trans WH;replace WI:=(HB.out.cell (World.block_lt_of_cell? w _ WI)).trans WI;replace WJ:=(HB.out.cell (World.block_lt_of_cell? w _ WJ)).trans WJ;have qpU:=Q0.mk qbg;have qpI:=Q0.mk qbp;clear qbg qbp;have qpV:=Q0.mk qbh;have qpJ:=Q0.mk qbq;clear qbh qbq;have qpW:=Q0.mk qbi;have qpK:=Q0.mk qbr;clear qbi qbr;replace qgu:=eq_true qgu;replace qgC:=eq_true qgC
                    go_wp2
                    repeat (go_quiet (fail);try go_wp2)
                    go_roundg qgY
                    case measure=>have:=HJ5.out;have:=W4.out;have:=qeJ.out;have:=HK4.out;have:=qgW.out;omega
                    case rel=>exact ⟨(wrap64 (Zc+1)),(by first|rfl|(simp;done)|(simp [*];done)),H',⟨by have:=HJ5.out;have:=W4.out;have:=qeJ.out;have:=HK4.out;have:=qgW.out;omega⟩,⟨by (with_reducible repeat (first|apply Kd.V_alloc|apply Kd.V_drewN|apply Kd.V_drew));exact HO_13.out⟩,⟨by (with_reducible repeat (first|refine Q4 ?_ _|refine Q7 ?_|refine Q2 ?_ _));exact Ql.out⟩,⟨by (with_reducible repeat (first|refine Q4 ?_ _|refine Q7 ?_|refine Q2 ?_ _));exact QP.out⟩,⟨by repeat (first|(with_reducible first|exact HB.out|apply Q3|apply Q1|apply Q6|refine Q5 ?_ Yc.out|refine Q5 ?_ Yk.out)|exact HB.out)⟩⟩
                   rw [if_neg qsD] at H
                   exact absurd H (by simp)
                  rw [if_neg qsC] at H
                  exact absurd H (by simp)
                 rw [if_neg qsB] at H
                 exact absurd H (by simp)
                rw [if_neg qsA] at H
                exact absurd H (by simp)
               rw [if_neg qou] at H;have c111b0:decide (ZZ<Z6)=false:=decide_eq_false qou;clear qou;have H':=Q0.mk H;clear H
               go_wp2
               repeat (go_quiet (fail);try go_wp2)
               go_roundg qgY
               case measure=>have:=HJ5.out;have:=W4.out;have:=qeJ.out;have:=HK4.out;have:=qgW.out;omega
               case rel=>exact ⟨(wrap64 (Zc+1)),(by first|rfl|(simp;done)|(simp [*];done)),H',⟨by have:=HJ5.out;have:=W4.out;have:=qeJ.out;have:=HK4.out;have:=qgW.out;omega⟩,⟨by (with_reducible repeat (first|apply Kd.V_alloc|apply Kd.V_drewN|apply Kd.V_drew));exact HO_13.out⟩,⟨by (with_reducible repeat (first|refine Q4 ?_ _|refine Q7 ?_|refine Q2 ?_ _));exact Ql.out⟩,⟨by (with_reducible repeat (first|refine Q4 ?_ _|refine Q7 ?_|refine Q2 ?_ _));exact QP.out⟩,⟨by repeat (first|(with_reducible first|exact HB.out|apply Q3|apply Q1|apply Q6|refine Q5 ?_ Yc.out|refine Q5 ?_ Yk.out)|exact HB.out)⟩⟩
              rw [if_neg qlt] at H;have c110b0:(YA==Yt)=false:=beq_eq_false_iff_ne.mpr qlt;have c110b1:(YA != Yt)=true:=bne_iff_ne.mpr qlt;have H':=Q0.mk H;clear H
              go_wp2
              repeat (go_quiet (fail);try go_wp2)
              go_roundg qgY
              case measure=>have:=HJ5.out;have:=W4.out;have:=qeJ.out;have:=HK4.out;have:=qgW.out;omega
              case rel=>exact ⟨(wrap64 (Zc+1)),(by first|rfl|(simp;done)|(simp [*];done)),H',⟨by have:=HJ5.out;have:=W4.out;have:=qeJ.out;have:=HK4.out;have:=qgW.out;omega⟩,⟨by (with_reducible repeat (first|apply Kd.V_alloc|apply Kd.V_drewN|apply Kd.V_drew));exact HO_13.out⟩,⟨by (with_reducible repeat (first|refine Q4 ?_ _|refine Q7 ?_|refine Q2 ?_ _));exact Ql.out⟩,⟨by (with_reducible repeat (first|refine Q4 ?_ _|refine Q7 ?_|refine Q2 ?_ _));exact QP.out⟩,⟨by repeat (first|(with_reducible first|exact HB.out|apply Q3|apply Q1|apply Q6|refine Q5 ?_ Yc.out|refine Q5 ?_ Yk.out)|exact HB.out)⟩⟩
             as_aux_lemma =>
             replace c85:=Bool.eq_false_iff.mpr c85;subst c85
             have H1:((Z2.f).bind fun qeG=>(some qeG))=some r:=by rw [if_neg (show ¬ (false=true) by decide)] at H;exact H
             clear H;have H:=H1;clear H1;replace H:=Option.bind_eq_some_iff.mp H;obtain ⟨qeG,quB,H⟩:=H;replace H:(some qeG)=some r:=H;have qvx:=Q0.mk quB;clear quB;obtain rfl:=Option.some.inj H
             go_wp2_with (first|(go_at_call 21;(with_reducible refine (Z2.calls  qeG _ qvx.out).mono ?_);rintro e qA6 ⟨rfl,hb⟩;have n0_:=Q0.mk (Kd.V_below (by (with_reducible repeat (first|apply Kd.V_alloc|apply Kd.V_drewN|apply Kd.V_drew));exact HO_13.out) hb);have n1_:=Q0.mk (Qg (g:=QE) (by (with_reducible repeat (first|refine Q4 ?_ _|refine Q7 ?_|refine Q2 ?_ _));exact Ql.out) hb);have n2_:=Q0.mk (Qg (g:=Yq) (by (with_reducible repeat (first|refine Q4 ?_ _|refine Q7 ?_|refine Q2 ?_ _));exact QP.out) hb);have n3_:=Q0.mk (Qk (by repeat (first|(with_reducible first|exact HB.out|apply Q3|apply Q1|apply Q6|refine Q5 ?_ Yc.out|refine Q5 ?_ Yk.out)|exact HB.out)) hb);clear HO_13 Ql QP HB;have HO_13:=n0_;have Ql:=n1_;have QP:=n2_;have HB:=n3_;clear n0_ n1_ n2_ n3_;(try clear hb);(try clear hb2);(try clear hk);(try clear hi)))
             repeat (go_quiet (first|(go_at_call 21;(with_reducible refine (Z2.calls  qeG _ qvx.out).mono ?_);rintro e qA6 ⟨rfl,hb⟩;have n0_:=Q0.mk (Kd.V_below (by (with_reducible repeat (first|apply Kd.V_alloc|apply Kd.V_drewN|apply Kd.V_drew));exact HO_13.out) hb);have n1_:=Q0.mk (Qg (g:=QE) (by (with_reducible repeat (first|refine Q4 ?_ _|refine Q7 ?_|refine Q2 ?_ _));exact Ql.out) hb);have n2_:=Q0.mk (Qg (g:=Yq) (by (with_reducible repeat (first|refine Q4 ?_ _|refine Q7 ?_|refine Q2 ?_ _));exact QP.out) hb);have n3_:=Q0.mk (Qk (by repeat (first|(with_reducible first|exact HB.out|apply Q3|apply Q1|apply Q6|refine Q5 ?_ Yc.out|refine Q5 ?_ Yk.out)|exact HB.out)) hb);clear HO_13 Ql QP HB;have HO_13:=n0_;have Ql:=n1_;have QP:=n2_;have HB:=n3_;clear n0_ n1_ n2_ n3_;(try clear hb);(try clear hb2);(try clear hk);(try clear hi)));try go_wp2_with (first|(go_at_call 21;(with_reducible refine (Z2.calls  qeG _ qvx.out).mono ?_);rintro e qA6 ⟨rfl,hb⟩;have n0_:=Q0.mk (Kd.V_below (by (with_reducible repeat (first|apply Kd.V_alloc|apply Kd.V_drewN|apply Kd.V_drew));exact HO_13.out) hb);have n1_:=Q0.mk (Qg (g:=QE) (by (with_reducible repeat (first|refine Q4 ?_ _|refine Q7 ?_|refine Q2 ?_ _));exact Ql.out) hb);have n2_:=Q0.mk (Qg (g:=Yq) (by (with_reducible repeat (first|refine Q4 ?_ _|refine Q7 ?_|refine Q2 ?_ _));exact QP.out) hb);have n3_:=Q0.mk (Qk (by repeat (first|(with_reducible first|exact HB.out|apply Q3|apply Q1|apply Q6|refine Q5 ?_ Yc.out|refine Q5 ?_ Yk.out)|exact HB.out)) hb);clear HO_13 Ql QP HB;have HO_13:=n0_;have Ql:=n1_;have QP:=n2_;have HB:=n3_;clear n0_ n1_ n2_ n3_;(try clear hb);(try clear hb2);(try clear hk);(try clear hi))))
             go_ret
             exact ⟨by first|rfl|(simp [Qz,QA]<;>rfl)|(simp [*,Qz,QA]<;>rfl),by repeat (first|(with_reducible first|exact HB.out|apply Q3|apply Q1|apply Q6|refine Q5 ?_ Yc.out|refine Q5 ?_ Yk.out)|exact HB.out)⟩
    rw [if_neg c33] at H
    exact absurd H (by simp)
   rw [if_neg c32] at H
   exact absurd H (by simp)
end
section
attribute [local go_sem] Yv Yx YJ YK Yl Ym Yw Yy
end
section
attribute [local go_sem] Yv Yx YJ YK Yl Ym Yw Yy
end
section
attribute [local go_sem] Yv Yx YJ YK Yl Ym Yw Yy
end
section
attribute [local go_sem] Yv Yx YJ YK Yl Ym Yw Yy
end
section
attribute [local go_sem] Yv Yx YJ YK Yl Ym Yw Yy
end
section
attribute [local go_sem] Yv Yx YJ YK Yl Ym Yw Yy
end
section
attribute [local go_sem] Yv Yx YJ YK Yl Ym Yw Yy
end
section
attribute [local go_sem] Yv Yx YJ YK Yl Ym Yw Yy
end
section
attribute [local go_sem] Yv Yx YJ YK Yl Ym Yw Yy
end
section
attribute [local go_sem] Yv Yx YJ YK Yl Ym Yw Yy
end
section
attribute [local go_sem] Yv Yx YJ YK Yl Ym Yw Yy
end
section
attribute [local go_sem] Yv Yx YJ YK Yl Ym Yw Yy
end
end Go.Proofs.Ytmhomdohhihlcaa.P
namespace Go.Proofs.Ytmhomdohhihlcaa.P
open Go.RowKit Go.ChangeShapes Go.WideShapes Go.Proofs.YtmhomdohhihlcaaW.PrintWords Go.Proofs.YtmhomdohhihlcaaW.PrintLast Go.Proofs.YtmhomdohhihlcaaW.PrintMore
def qa4 {α:Type} (d:Kd α) (t:TypeId) (p:α→Prop):Prop:=∀ (H:Type) (enc:TypeId × Value→H) (w:World) (fuel:Nat) (cs:List Value) (x:DataW H × List MemPlace),
 DataW.trod enc Try.prog w 0 (fun _=>true) true fuel t cs=some x → ∃ a,d.K w a cs∧p a
def Wf (n:Int):Prop:=(Lit.int .i64 n).wf=true
theorem qoZ:qa4 (Kd.int .i64) 3 Wf:=fun H enc w fuel cs x h=>by
 obtain ⟨n,rfl,_,hw⟩:=DataW.trod_int Try.underlying3 h
 exact ⟨n,rfl,hw⟩
theorem Xg {α:Type} {d:Kd α} {e e' t:TypeId} {p:α→Prop} (h:qa4 d e p) (ht:Try.prog.underlying t=some (.slice e)) (hc:Try.prog.cellsOf e=d.sz):qa4 (Kd.slice e' d) t (fun xs => ∀ x∈xs,p x):=fun H enc w fuel cs x hf=>by
 rcases Deep.open_slice ht hf with ⟨rfl,_⟩|⟨a,len,cap,m,n,D,Pl,rfl,_,hl,hm,hmm,_,hx⟩
 ·
  exact ⟨[],⟨none,0,rfl,Nat.le_refl _,Kd.C_nil d w⟩,fun x hx=>by simp at hx⟩
 ·
  have each:∀ i,i<len → ∃ z:α,(∃ c,c.length=d.sz∧d.K w z c ∧ ∀ j u,c[j]? = some u→w.cell? (a.add (i*d.sz+j))=some u)∧p z:=fun i hi=>by
   obtain ⟨cs',h1,h2⟩:=hx i (by simp only [if_true] at hmm;omega)
   obtain ⟨z,hz,hp⟩:=h H enc w n cs' _ h2
   obtain ⟨_,hcl,hat⟩:=World.cells?_some h1
   refine ⟨z,⟨cs',d.K_len hz,hz,fun j u hu => ?_⟩,hp⟩
   have hj:j<cs'.length:=(List.getElem?_eq_some_iff.1 hu).1
   rw [d.K_len hz] at hj
   have hj':j<Try.prog.cellsOf e:=by rw [hc];exact hj
   have h3:=hat j hj'
   rw [Deep.add_add,hc] at h3
   rw [h3]
   exact hu
  by_cases h0:len=0
  ·
   subst h0
   exact ⟨[],⟨some a,cap,rfl,by simp,⟨rfl,by simp,fun hh=>by simp at hh⟩⟩,fun x hx=>by simp at hx⟩
  ·
   obtain ⟨z0,_⟩:=each 0 (by omega)
   have inst:Inhabited α:=⟨z0⟩
   obtain ⟨f,hfz⟩:=Deep.choose_lt each
   have hmx:cap≤9223372036854775807:=by unfold maxLen at hm;omega
   refine ⟨(List.range len).map f,⟨some a,cap,by simp,by simpa using hl,⟨rfl,by simp;omega,fun _=>⟨a,rfl,fun j q hj => ?_⟩⟩⟩,fun x hx => ?_⟩
   ·
    have hj2:j<len:=by have:=(List.getElem?_eq_some_iff.1 hj).1;simpa using this
    rw [List.getElem?_map,List.getElem?_range hj2] at hj
    injection hj with hj
    subst hj;obtain ⟨c,c1,c2,c3⟩:=(hfz j hj2).1
    exact ⟨c,c1,c2,c3⟩
   ·
    obtain ⟨i,hi,rfl⟩:=List.mem_map.1 hx
    exact (hfz i (List.mem_range.1 hi)).2
theorem c3:Try.prog.cellsOf 3=1:=by kernel_rfl
theorem c25:Try.prog.cellsOf 25=2:=by kernel_rfl
theorem c37:Try.prog.cellsOf 37=1:=by kernel_rfl
theorem c32:Try.prog.cellsOf 32=1:=by kernel_rfl
theorem c63:Try.prog.cellsOf 63=1:=by kernel_rfl
theorem c44:Try.prog.cellsOf 44=1:=by kernel_rfl
theorem c45:Try.prog.cellsOf 45=1:=by kernel_rfl
theorem c39:Try.prog.cellsOf 39=5:=by kernel_rfl
theorem c47:Try.prog.cellsOf 47=3:=by kernel_rfl
theorem c23:Try.prog.cellsOf 23=2:=by kernel_rfl
theorem c85:Try.prog.cellsOf 85=4:=by kernel_rfl
theorem qIb {α:Type} {l:List α} (h:l.length=2):∃ a b,l=[a,b]:=by
 match l,h with
 | [a,b],_=>exact ⟨a,b,rfl⟩
theorem qIc {α:Type} {l:List α} (h:l.length=3):∃ a b c,l=[a,b,c]:=by
 match l,h with
 | [a,b,c],_=>exact ⟨a,b,c,rfl⟩
theorem qId {α:Type} {l:List α} (h:l.length=5):∃ a b c d e,l=[a,b,c,d,e]:=by
 match l,h with
 | [a,b,c,d,e],_=>exact ⟨a,b,c,d,e,rfl⟩
theorem Wp {α:Type} {l:List α} {i:Nat} {o:Option α} (hi:i<l.length) (h:o=l[i]?):∃ y,o=some y:=⟨l[i],by rw [h,List.getElem?_eq_getElem hi]⟩
def WL (l:List Int):Prop:=∀ x∈l,Wf x
def W39 (s:S39):Prop:=WL s.f0∧WL s.f1∧WL s.f2∧Wf s.f3∧Wf s.f4
theorem WM:qa4 (Kd.slice 3 (Kd.int .i64)) 37 WL:=Xg qoZ Try.underlying37 c3
theorem qrv:qa4 k39 39 W39:=fun H enc w fuel cs x h=>by
 obtain ⟨xs,n,_,_,hl,hxl,hf⟩:=DataW.trod_struct Try.underlying39 h
 rw [c39] at hl
 obtain ⟨a,b,c,d,e,rfl⟩:=qId hl
 have h0:DataW.trod enc Try.prog w 0 (fun _=>true) true n 37 (([a,b,c,d,e].drop 0).take (Try.prog.cellsOf 37))=xs[0]?:=hf 0 _ rfl
 have h1:DataW.trod enc Try.prog w 0 (fun _=>true) true n 37 (([a,b,c,d,e].drop 1).take (Try.prog.cellsOf 37))=xs[1]?:=hf 1 _ rfl
 have h2:DataW.trod enc Try.prog w 0 (fun _=>true) true n 37 (([a,b,c,d,e].drop 2).take (Try.prog.cellsOf 37))=xs[2]?:=hf 2 _ rfl
 have h3:DataW.trod enc Try.prog w 0 (fun _=>true) true n 3 (([a,b,c,d,e].drop 3).take (Try.prog.cellsOf 3))=xs[3]?:=hf 3 _ rfl
 have h4:DataW.trod enc Try.prog w 0 (fun _=>true) true n 3 (([a,b,c,d,e].drop 4).take (Try.prog.cellsOf 3))=xs[4]?:=hf 4 _ rfl
 rw [c37] at h0 h1 h2
 rw [c3] at h3 h4
 have hx2:xs.length=5:=hxl
 obtain ⟨y0,e0⟩:=Wp (by omega) h0
 obtain ⟨y1,e1⟩:=Wp (by omega) h1
 obtain ⟨y2,e2⟩:=Wp (by omega) h2
 obtain ⟨y3,e3⟩:=Wp (by omega) h3
 obtain ⟨y4,e4⟩:=Wp (by omega) h4
 obtain ⟨l0,⟨A0,d0,q0,z0,k0⟩,g0⟩:=WM H enc w n _ _ e0
 obtain ⟨l1,⟨A1,d1,q1,z1,k1⟩,g1⟩:=WM H enc w n _ _ e1
 obtain ⟨l2,⟨A2,d2,q2,z2,k2⟩,g2⟩:=WM H enc w n _ _ e2
 obtain ⟨n3,q3,_,g3⟩:=DataW.trod_int Try.underlying3 e3
 obtain ⟨n4,q4,_,g4⟩:=DataW.trod_int Try.underlying3 e4
 replace q0:[a]=[Value.slice A0 l0.length d0]:=q0
 replace q1:[b]=[Value.slice A1 l1.length d1]:=q1
 replace q2:[c]=[Value.slice A2 l2.length d2]:=q2
 replace q3:[d]=[Value.int .i64 n3]:=q3
 replace q4:[e]=[Value.int .i64 n4]:=q4
 injection q0 with q0
 injection q1 with q1
 injection q2 with q2
 injection q3 with q3
 injection q4 with q4
 subst q0 q1 q2 q3 q4
 exact ⟨⟨l0,l1,l2,n3,n4⟩,qrc w ⟨l0,l1,l2,n3,n4⟩ z0 k0 z1 k1 z2 k2,g0,g1,g2,g3,g4⟩
theorem qmu:qa4 (Kd.slice 37 (Kd.slice 3 (Kd.int .i64))) 63 (fun l => ∀ x∈l,WL x):=Xg WM Try.underlying63 c37
theorem qg4:qa4 (Kd.slice 63 (Kd.slice 37 (Kd.slice 3 (Kd.int .i64)))) 45 (fun l => ∀ x∈l,∀ y∈x,WL y):=Xg qmu Try.underlying45 c63
theorem qkK:qa4 (Kd.slice 39 k39) 44 (fun l => ∀ x∈l,W39 x):=Xg qrv Try.underlying44 c39
section
variable {H:Type} {enc:TypeId × Value→H} {W:World} {d:DataW H} {ps:List MemPlace}
theorem qv2 {cs:Array Value} (h:DataW.Trod enc Try.prog W 0 (fun _=>true) true 47 (.agg cs) d ps):∃ (A0 A1 A2:Option Addr) (c0 c1 c2:Nat) (l0:List S39) (l1:List Int) (l2:List (List (List Int))),cs=#[.slice A0 l0.length c0,.slice A1 l1.length c1,.slice A2 l2.length c2] ∧
  l0.length≤c0∧Kd.C k39 W A0 l0.length l0∧l1.length≤c1∧Kd.C (Kd.int .i64) W A1 l1.length l1∧l2.length≤c2∧Kd.C (Kd.slice 37 (Kd.slice 3 (Kd.int .i64))) W A2 l2.length l2∧(∀ x∈l0,W39 x)∧WL l1∧(∀ x∈l2,∀ y∈x,WL y):=by
 obtain ⟨fuel,hf⟩:=h
 replace hf:DataW.trod enc Try.prog W 0 (fun _=>true) true fuel 47 cs.toList=some (d,ps):=hf
 obtain ⟨xs,n,_,_,hl,hxl,hff⟩:=DataW.trod_struct Try.underlying47 hf
 rw [c47] at hl
 obtain ⟨a,b,c,hcs⟩:=qIc hl
 rw [hcs] at hff
 have h0:DataW.trod enc Try.prog W 0 (fun _=>true) true n 44 (([a,b,c].drop 0).take (Try.prog.cellsOf 44))=xs[0]?:=hff 0 _ rfl
 have h1:DataW.trod enc Try.prog W 0 (fun _=>true) true n 37 (([a,b,c].drop 1).take (Try.prog.cellsOf 37))=xs[1]?:=hff 1 _ rfl
 have h2:DataW.trod enc Try.prog W 0 (fun _=>true) true n 45 (([a,b,c].drop 2).take (Try.prog.cellsOf 45))=xs[2]?:=hff 2 _ rfl
 rw [c44] at h0
 rw [c37] at h1
 rw [c45] at h2
 have hx2:xs.length=3:=hxl
 obtain ⟨y0,e0⟩:=Wp (by omega) h0
 obtain ⟨y1,e1⟩:=Wp (by omega) h1
 obtain ⟨y2,e2⟩:=Wp (by omega) h2
 obtain ⟨l0,⟨A0,d0,q0,z0,k0⟩,g0⟩:=qkK H enc W n _ _ e0
 obtain ⟨l1,⟨A1,d1,q1,z1,k1⟩,g1⟩:=WM H enc W n _ _ e1
 obtain ⟨l2,⟨A2,d2,q2,z2,k2⟩,g2⟩:=qg4 H enc W n _ _ e2
 replace q0:[a]=[Value.slice A0 l0.length d0]:=q0
 replace q1:[b]=[Value.slice A1 l1.length d1]:=q1
 replace q2:[c]=[Value.slice A2 l2.length d2]:=q2
 injection q0 with q0
 injection q1 with q1
 injection q2 with q2
 subst q0 q1 q2
 exact ⟨A0,A1,A2,d0,d1,d2,l0,l1,l2,Array.toList_inj.1 hcs,z0,k0,z1,k1,z2,k2,g0,g1,g2⟩
theorem qiU {r:Reach} {base:Nat} {t e:TypeId} {n:Nat} {v:Value} (ht:Try.prog.underlying t=some (.array n e)) (h:Value.okWide Try.prog W r base t v):∃ cs,v = .agg cs:=by
 simp only [Value.okWide,ht] at h
 obtain ⟨cs,h1,_⟩:=h
 exact ⟨cs,h1⟩
theorem qv3 {n:Nat} {t:TypeId} (ht:Try.prog.underlying t=some (.array n 3)) {fuel:Nat} {l:List Value} {x:DataW H × List MemPlace} (h:DataW.trod enc Try.prog W 0 (fun _=>true) true fuel t l=some x) :
  l.length=Try.prog.cellsOf t ∧ ∀ i v,i<n→l[i]? = some v → ∃ m,v = .int .i64 m∧Wf m:=by
 obtain ⟨xs,m,_,_,hl,hxl,hf⟩:=DataW.trod_array ht h
 refine ⟨hl,fun i v hi hv => ?_⟩
 have h1:=hf i hi
 rw [c3,Nat.mul_one] at h1
 obtain ⟨y,e⟩:=Wp (by omega) h1
 obtain ⟨n',q,_,g⟩:=DataW.trod_int Try.underlying3 e
 obtain ⟨hil,hv'⟩:=List.getElem?_eq_some_iff.1 hv
 rw [List.drop_eq_getElem_cons hil,hv'] at q
 injection q with q
 exact ⟨n',q,g⟩
theorem qv1 {cs:Array Value} (h:DataW.Trod enc Try.prog W 0 (fun _=>true) true 23 (.agg cs) d ps):∃ a b:Int,cs=#[.int .i64 a,.int .i64 b]∧Wf a∧Wf b:=by
 obtain ⟨fuel,hf⟩:=h
 obtain ⟨hl,hat⟩:=qv3 Try.underlying23 (show DataW.trod enc Try.prog W 0 (fun _=>true) true fuel 23 cs.toList=some (d,ps) from hf)
 rw [c23] at hl
 obtain ⟨a,b,e⟩:=qIb hl
 rw [e] at hat
 obtain ⟨m0,rfl,g0⟩:=hat 0 _ (by omega) rfl
 obtain ⟨m1,rfl,g1⟩:=hat 1 _ (by omega) rfl
 exact ⟨m0,m1,Array.toList_inj.1 e,g0,g1⟩
end
end Go.Proofs.Ytmhomdohhihlcaa.P
namespace Go.Proofs.Ytmhomdohhihlcaa.P
open Go.RowKit Go.Proofs.YtmhomdohhihlcaaW.PrintWords Go.Proofs.YtmhomdohhihlcaaW.PrintLast Go.Proofs.YtmhomdohhihlcaaW.PrintMore
section
theorem qeQ {α:Type} {d:Kd α} {w:World} {A:Option Addr} {n:Nat} {xs:List α} (h:d.C w A n xs):xs.length≤9223372036854775807:=by
 obtain ⟨h1,h2,_⟩:=h
 omega
theorem quC {α:Type} {d:Kd α} {w:World} {A:Option Addr} {xs:List α} (h:d.C w A xs.length xs) {x:α} (hx:x∈xs):∃ c,d.K w x c:=by
 obtain ⟨i,hi,rfl⟩:=List.getElem_of_mem hx
 obtain ⟨ad,c,e,_,hK,_⟩:=Kd.C_get h xs[i] (i:Int) (by omega) (by omega)
 refine ⟨c,?_⟩
 have:xs.getD ((i:Int)).toNat xs[i]=xs[i]:=by simp [List.getD_eq_getElem?_getD,List.getElem?_eq_getElem hi]
 rw [this] at hK
 exact hK
def LB2 (l:List (List Int)):Prop:=l.length≤9223372036854775807 ∧ ∀ r∈l,r.length≤9223372036854775807
def LB (l:List (List (List Int))):Prop:=l.length≤9223372036854775807 ∧ ∀ s∈l,LB2 s
theorem qmx {w:World} {A:Option Addr} {l:List (List Int)} (h:Kd.C (Kd.slice 3 (Kd.int .i64)) w A l.length l):LB2 l:=by
 refine ⟨qeQ h,fun r hr => ?_⟩
 obtain ⟨c,A1,c1,_,_,h1⟩:=quC h hr
 exact qeQ h1
theorem qg7 {w:World} {A:Option Addr} {l:List (List (List Int))} (h:Kd.C (Kd.slice 37 (Kd.slice 3 (Kd.int .i64))) w A l.length l):LB l:=by
 refine ⟨qeQ h,fun r hr => ?_⟩
 obtain ⟨c,A1,c1,_,_,h1⟩:=quC h hr
 exact qmx h1
end
section
attribute [local go_sem] Yv Yx YJ YK Yl Ym Yw Yy
end
section
attribute [local go_sem] Yv Yx YJ YK Yl Ym Yw Yy
end
section
attribute [local go_sem] Yv Yx YJ YK Yl Ym Yw Yy
end
section
attribute [local go_sem] Yv Yx YJ YK Yl Ym Yw Yy
end
section
attribute [local go_sem] Yv Yx YJ YK Yl Ym Yw Yy
attribute [local go_sem high] qqy
end
section
theorem GJ (a b c:Int):Qo.f a b c=some (wi a b c):=by
 unfold Qo.f wi
 by_cases h:b≤a
 ·
  rw [if_pos h];simp [h]
 ·
  rw [if_neg h];simp [h]
theorem qbF (a b c:Int):Qn.f a b c=some (wi a b c):=by
 unfold Qn.f wi
 by_cases h:b≤a
 ·
  rw [if_pos h];simp [h]
 ·
  rw [if_neg h];simp [h]
def sp (a b h:Int):Bool:=decide (0≤a∧a≤b∧b≤h)
theorem wr1 (i n:Nat) (h:i<n) (hn:(n:Int)≤9223372036854775807):wrap64 ((i:Int)+1)=((i+1:Nat):Int):=by unfold wrap64;omega
end
section
theorem rdI (l:List Int) (i:Nat) (h:i<l.length):rd l (i:Int)=l[i]:=by simp [rd,List.getD_eq_getElem?_getD,List.getElem?_eq_getElem h]
def vR (l0 l1 l2:List Int) (i:Nat):Bool:=wi (rd l0 i) 0 100000&&wi (rd l1 i) 0 1000&&wi (rd l2 i) 0 100
def aR (l0 l1 l2:List Int):Nat→Nat→Bool
 | 0,_=>true
 | d+1,i=>vR l0 l1 l2 i&&aR l0 l1 l2 d (i+1)
def isR (l0 l1 l2:List Int) (a3 a4:Int):Bool :=
 (wi (l0.length:Int) 1 6&&decide (l1.length=l0.length)&&decide (l2.length=l0.length)&&wi a3 0 100000000&&wi a4 0 ((l0.length:Int)-1))&&aR l0 l1 l2 l0.length 0
theorem qva {l0 l1 l2:List Int}:∀ (d i:Nat),aR l0 l1 l2 d i=true → ∀ j,i≤j→j<i+d→vR l0 l1 l2 j=true
 | 0,i,_,j,h1,h2=>by omega
 | d+1,i,h,j,h1,h2=>by
  rw [aR,Bool.and_eq_true] at h
  by_cases hj:j=i
  ·
   rw [hj];exact h.1
  ·
   exact qva d (i+1) h.2 j (by omega) (by omega)
theorem qrb {l0 l1 l2:List Int} {a3 a4:Int} (h:isR l0 l1 l2 a3 a4=true):okR l0 l1 l2 a4∧wi a3 0 100000000=true ∧ ∀ i,i<l0.length→vR l0 l1 l2 i=true:=by
 unfold isR at h
 simp only [Bool.and_eq_true,decide_eq_true_eq] at h
 obtain ⟨⟨⟨⟨⟨h1,h2⟩,h3⟩,h4⟩,h5⟩,h6⟩:=h
 have g1:=GT.1 h1
 have g5:=GT.1 h5
 exact ⟨⟨by omega,by omega,h2,h3,by omega,by omega⟩,h4,fun i hi=>qva _ _ h6 i (by omega) (by omega)⟩
section
variable (l0 l1 l2:List Int) (a3 a4:Int)
theorem qea:∀ (d i:Nat) (b:Bool),i+d=l0.length→(b=true→l1.length=l0.length∧l2.length=l0.length∧l0.length≤6)→Ev (fun k=>Qi.l0 k (l0.length:Int) b (i:Int) l0 l1 l2 a3 a4) (b&&aR l0 l1 l2 d i):=by
 intro d
 induction d with
 | zero =>
  intro i b hi hb
  rw [aR,Bool.and_true]
  refine Ev.step (f:=fun k=>Qi.j2 k (l0.length:Int) b (i:Int) false l0 l1 l2 a3 a4) (fun k => ?_) (Ev.step (f:=fun _=>some b) (fun k => ?_) (Ev.now _))
  ·
   simp only [Qi.l0]
   rw [decide_eq_false (by omega:¬ (i:Int)<(l0.length:Int))]
   cases b<;>rfl
  ·
   simp [Qi.j2]
 | succ d ih =>
  intro i b hi hb
  cases b with
  | false =>
   rw [Bool.false_and]
   refine Ev.step (f:=fun k=>Qi.j2 k (l0.length:Int) false (i:Int) false l0 l1 l2 a3 a4) (fun k => ?_) (Ev.step (f:=fun _=>some false) (fun k => ?_) (Ev.now _))
   ·
    simp [Qi.l0]
   ·
    simp [Qi.j2]
  | true =>
   obtain ⟨b1,b2,b3⟩:=hb rfl
   have hlt:i<l0.length:=by omega
   rw [Bool.true_and,aR]
   refine Ev.step (f:=fun k=>Qi.j2 k (l0.length:Int) true (i:Int) true l0 l1 l2 a3 a4) (fun k => ?_) ?_
   ·
    simp only [Qi.l0];rw [decide_eq_true (by omega:(i:Int)<(l0.length:Int))]
    rfl
   ·
    refine Ev.step (f:=fun k=>Qi.l0 k (l0.length:Int) (vR l0 l1 l2 i) ((i+1:Nat):Int) l0 l1 l2 a3 a4) (fun k => ?_) (ih (i+1) _ (by omega) (fun _=>⟨b1,b2,b3⟩));have hw:=wr1 i l0.length hlt (by omega);simp only [Qi.j2,GJ,Option.bind_some,hw];rw [if_pos trivial,if_pos (by omega),if_pos (by omega)];unfold vR
    cases h1:wi (rd l0 i) 0 100000 with
    | false=>simp
    | true =>
     rw [if_pos rfl,if_pos (by omega)]
     cases h2:wi (rd l1 i) 0 1000 with
     | false=>simp
     | true=>rw [if_pos rfl,if_pos (by omega)];simp
theorem qhs:Ev (fun k=>Qi.f k l0 l1 l2 a3 a4) (isR l0 l1 l2 a3 a4):=by
 have H:∀ b:Bool,(b=true→l1.length=l0.length∧l2.length=l0.length∧l0.length≤6)→Ev (fun k=>Qi.j0 k (l0.length:Int) b l0 l1 l2 a3 a4) (b&&aR l0 l1 l2 l0.length 0):=fun b hb =>
  Ev.step (f:=fun k=>Qi.l0 k (l0.length:Int) b ((0:Nat):Int) l0 l1 l2 a3 a4) (fun k=>by simp [Qi.j0]) (qea l0 l1 l2 a3 a4 l0.length 0 b (by omega) hb)
 have HF:=H false (fun h=>by simp at h)
 unfold isR
 simp only [Qi.f,GJ,Option.bind_some]
 cases h1:wi (l0.length:Int) 1 6 with
 | false=>simpa using HF
 | true =>
  have g1:=GT.1 h1
  have hw:wrap64 ((l0.length:Int)-1)=(l0.length:Int)-1:=by unfold wrap64;omega
  by_cases h2:l1.length=l0.length
  ·
   by_cases h3:l2.length=l0.length
   ·
    cases h4:wi a3 0 100000000 with
    | false=>simpa [h2,h3] using HF
    | true =>
     simp only [h2,h3,hw,if_true,decide_true,Bool.true_and,Bool.and_true]
     exact H _ (fun _=>⟨h2,h3,by omega⟩)
   ·
    have h3':¬ (l2.length:Int)=(l0.length:Int):=by omega
    simpa [h2,h3,h3'] using HF
  ·
   have h2':¬ (l1.length:Int)=(l0.length:Int):=by omega
   simpa [h2,h2'] using HF
end
def plL (m:Nat) (mesh:Int) (keep spawn tk rc:List Int):Nat→Nat→List Int→List Int→List Int
 | 0,_,_,acc=>acc
 | d+1,i,n,acc=>plL m mesh keep spawn tk rc d (i+1) (GD m mesh keep spawn n (rd tk i) (rd rc i)).2 (acc++[(GD m mesh keep spawn n (rd tk i) (rd rc i)).1])
theorem six {l:List Int} (h:l.length=6):[rd l 0,rd l 1,rd l 2,rd l 3,rd l 4,rd l 5]=l:=by
 rcases l with _|⟨a,_|⟨b,_|⟨c,_|⟨d,_|⟨e,_|⟨f,_|⟨g,l⟩⟩⟩⟩⟩⟩⟩<;>simp at h
 rfl
section
variable (l0 l1 l2:List Int) (a3 a4:Int) (ho:okR l0 l1 l2 a4) (tk rc:List Int) (hlen:rc.length=tk.length) (h10:tk.length≤10)
include ho hlen h10
theorem qhb:∀ (d i:Nat) (n acc:List Int),n.length=6→acc.length=i→i+d=tk.length→Ev (fun k=>Qx.l1 k tk rc acc (tk.length:Int) (i:Int) l0 l1 l2 a3 a4 (rd n 0) (rd n 1) (rd n 2) (rd n 3) (rd n 4) (rd n 5)) (plL l0.length a4 l1 l2 tk rc d i n acc,0):=by
 intro d
 induction d with
 | zero =>
  intro i n acc hn ha hi
  refine Ev.step (f:=fun _=>some (acc,0)) (fun k => ?_) (Ev.now _)
  simp only [Qx.l1]
  rw [if_neg (by omega),if_pos (by omega),if_pos (by omega),Int.toNat_natCast,List.take_length]
 | succ d ih =>
  intro i n acc hn ha hi
  have h6:=qhw l0.length a4 l1 l2 n (rd tk i) (rd rc i)
  refine Ev.step (f:=fun k=>Qx.l1 k tk rc (acc++[(GD l0.length a4 l1 l2 n (rd tk i) (rd rc i)).1]) (tk.length:Int) ((i+1:Nat):Int) l0 l1 l2 a3 a4 (rd (GD l0.length a4 l1 l2 n (rd tk i) (rd rc i)).2 0) (rd (GD l0.length a4 l1 l2 n (rd tk i) (rd rc i)).2 1) (rd (GD l0.length a4 l1 l2 n (rd tk i) (rd rc i)).2 2) (rd (GD l0.length a4 l1 l2 n (rd tk i) (rd rc i)).2 3) (rd (GD l0.length a4 l1 l2 n (rd tk i) (rd rc i)).2 4) (rd (GD l0.length a4 l1 l2 n (rd tk i) (rd rc i)).2 5)) (fun k => ?_) (ih (i+1) _ _ h6 (by simp;omega) (by omega))
  have hw:=wr1 i tk.length (by omega) (by omega)
  simp only [Qx.l1,hw,YY.f,six hn]
  rw [if_pos (by omega),if_pos (by omega),if_pos (by omega),if_pos (by omega),if_pos ho,Option.bind_some,if_pos (by omega)]
def tR (tk rc:List Int):Nat→Nat→Bool
 | 0,_=>true
 | d+1,i=>(wi (rd tk i) 0 100000000&&wi (rd rc i) 0 100000)&&tR tk rc d (i+1)
omit ho hlen h10 in
theorem qj3 (h6:l0.length≤6):Z8.f l0 l1 l2 a3 a4=some (rd l0 0,rd l0 1,rd l0 2,rd l0 3,rd l0 4,rd l0 5):=by
 unfold Z8.f;rw [if_pos h6]
def plV (l0 l1 l2:List Int) (a4:Int) (tk rc:List Int):List Int:=plL l0.length a4 l1 l2 tk rc tk.length 0 [rd l0 0,rd l0 1,rd l0 2,rd l0 3,rd l0 4,rd l0 5] []
def qeC (l0 l1 l2:List Int) (a4:Int) (tk rc:List Int) (b:Bool):List Int × Int:=if b=true then (plV l0 l1 l2 a4 tk rc,0) else ([],92)
theorem qbw (b:Bool) (i:Int):Ev (fun k=>Qx.j2 k tk rc b i false l0 l1 l2 a3 a4) (qeC l0 l1 l2 a4 tk rc b):=by
 cases b with
 | false =>
  refine Ev.step (f:=fun _=>some ([],92)) (fun k => ?_) (Ev.now _)
  simp [Qx.j2]
 | true =>
  refine Ev.step (f:=fun k=>Qx.l1 k tk rc [] (tk.length:Int) ((0:Nat):Int) l0 l1 l2 a3 a4 (rd l0 0) (rd l0 1) (rd l0 2) (rd l0 3) (rd l0 4) (rd l0 5)) (fun k => ?_) (qhb l0 l1 l2 a3 a4 ho tk rc hlen h10 tk.length 0 [rd l0 0,rd l0 1,rd l0 2,rd l0 3,rd l0 4,rd l0 5] [] rfl rfl (by omega))
  simp only [Qx.j2]
  rw [if_neg (by decide),if_pos trivial,qj3 l0 l1 l2 a3 a4 ho.2.1]
  rfl
theorem qha:∀ (d i:Nat) (b:Bool),i+d=tk.length→Ev (fun k=>Qx.l0 k tk rc b (i:Int) l0 l1 l2 a3 a4) (qeC l0 l1 l2 a4 tk rc (b&&tR tk rc d i)):=by
 intro d
 induction d with
 | zero =>
  intro i b hi
  rw [tR,Bool.and_true]
  refine Ev.step (f:=fun k=>Qx.j2 k tk rc b (i:Int) false l0 l1 l2 a3 a4) (fun k => ?_) (qbw l0 l1 l2 a3 a4 ho tk rc hlen h10 b i)
  simp only [Qx.l0]
  rw [decide_eq_false (by omega:¬ (i:Int)<(tk.length:Int))]
  cases b<;>rfl
 | succ d ih =>
  intro i b hi
  cases b with
  | false =>
   rw [Bool.false_and]
   refine Ev.step (f:=fun k=>Qx.j2 k tk rc false (i:Int) false l0 l1 l2 a3 a4) (fun k => ?_) (qbw l0 l1 l2 a3 a4 ho tk rc hlen h10 false i)
   simp [Qx.l0]
  | true =>
   have hlt:i<tk.length:=by omega
   rw [Bool.true_and,tR]
   refine Ev.step (f:=fun k=>Qx.j2 k tk rc true (i:Int) true l0 l1 l2 a3 a4) (fun k => ?_) ?_
   ·
    simp only [Qx.l0];rw [decide_eq_true (by omega:(i:Int)<(tk.length:Int))]
    rfl
   ·
    refine Ev.step (f:=fun k=>Qx.l0 k tk rc (wi (rd tk i) 0 100000000&&wi (rd rc i) 0 100000) ((i+1:Nat):Int) l0 l1 l2 a3 a4) (fun k => ?_) (ih (i+1) _ (by omega));have hw:=wr1 i tk.length hlt (by omega);simp only [Qx.j2,GJ,Option.bind_some,hw];rw [if_pos trivial,if_pos (by omega),if_pos (by omega)]
    cases h1:wi (rd tk i) 0 100000000 with
    | false=>simp
    | true =>
     rw [if_pos rfl,if_pos (by omega)]
     simp
end
theorem qxh (tk rc:List Int) (h:rc.length=tk.length):∀ (d i:Nat),i+d=tk.length→tR tk rc d i=((tk.drop i).all (fun x=>wi x 0 100000000)&&(rc.drop i).all (fun x=>wi x 0 100000)):=by
 intro d
 induction d with
 | zero=>intro i hi;rw [List.drop_eq_nil_of_le (by omega),List.drop_eq_nil_of_le (by omega),tR];rfl
 | succ d ih =>
  intro i hi
  have h1:i<tk.length:=by omega
  have h2:i<rc.length:=by omega
  rw [List.drop_eq_getElem_cons h1,List.drop_eq_getElem_cons h2,List.all_cons,List.all_cons,tR,ih (i+1) (by omega),rdI tk i h1,rdI rc i h2]
  cases wi tk[i] 0 100000000<;>cases wi rc[i] 0 100000<;>simp
def plOk (s:S39) (tk rc:List Int):Bool:=isR s.f0 s.f1 s.f2 s.f3 s.f4&&wi (tk.length:Int) 1 10&&((rc.length:Int)==(tk.length:Int))&&(tk.all (fun x=>wi x 0 100000000)&&rc.all (fun x=>wi x 0 100000))
theorem qgG (l0 l1 l2:List Int) (a3 a4:Int) (tk rc:List Int):Ev (fun k=>Qx.j0 k tk rc false l0 l1 l2 a3 a4) ([],92):=by
 refine Ev.step (f:=fun k=>Qx.l0 k tk rc false 0 l0 l1 l2 a3 a4) (fun k=>by simp [Qx.j0]) ?_
 refine Ev.step (f:=fun k=>Qx.j2 k tk rc false 0 false l0 l1 l2 a3 a4) (fun k=>by simp [Qx.l0]) ?_
 refine Ev.step (f:=fun _=>some ([],92)) (fun k => ?_) (Ev.now _)
 simp [Qx.j2]
theorem qg9 (s:S39) (tk rc:List Int):Ev (fun k=>Qx.f k s.f0 s.f1 s.f2 s.f3 s.f4 tk rc) (qeC s.f0 s.f1 s.f2 s.f4 tk rc (plOk s tk rc)):=by
 refine Ev.bind (qhs s.f0 s.f1 s.f2 s.f3 s.f4) ?_
 have HF:=qgG s.f0 s.f1 s.f2 s.f3 s.f4 tk rc
 unfold plOk
 simp only [GJ,Option.bind_some]
 cases h1:isR s.f0 s.f1 s.f2 s.f3 s.f4 with
 | false=>simpa [qeC] using HF
 | true =>
  cases h2:wi (tk.length:Int) 1 10 with
  | false=>simpa [qeC] using HF
  | true =>
   by_cases h3:rc.length=tk.length
   ·
    have g2:=GT.1 h2
    have e3:((rc.length:Int)==(tk.length:Int))=true:=by simp [h3]
    rw [e3];have h:=qha s.f0 s.f1 s.f2 s.f3 s.f4 (qrb h1).1 tk rc h3 (by omega) tk.length 0 true (by omega);rw [qxh tk rc h3 tk.length 0 (by omega)] at h;refine Ev.step (f:=fun k=>Qx.l0 k tk rc true ((0:Nat):Int) s.f0 s.f1 s.f2 s.f3 s.f4) (fun k => ?_) h
    simp [Qx.j0]
   ·
    have e3:((rc.length:Int)==(tk.length:Int))=false:=by simp;omega
    rw [e3]
    simpa [qeC] using HF
end
section
theorem quk (l:List (List Int)) (i:Nat) (h:i<l.length):QC l (i:Int)=l[i]:=by simp [QC,List.getD_eq_getElem?_getD,List.getElem?_eq_getElem h]
theorem qoY (l:List (List (List Int))) (i:Nat) (h:i<l.length):Qs l (i:Int)=l[i]:=by simp [Qs,List.getD_eq_getElem?_getD,List.getElem?_eq_getElem h]
def isS (s:S39):Bool:=isR s.f0 s.f1 s.f2 s.f3 s.f4
def yrs (q:List (List (List Int))):Nat:=(QC (Qs q 0) 0).length
def vals (row:List Int):Bool:=row.all (fun x=>wi x 0 100000)
def qcf (y:Nat) (row:List Int):Bool:=(wi (row.length:Int) 1 10&&((row.length:Int)==(y:Int)))&&vals row
def qcg (n y:Nat) (s:List (List Int)):Bool:=((s.length:Int)==(n:Int))&&s.all (qcf y)
def rOk (races:List S39) (keep:List Int):Nat→Nat→Bool
 | 0,_=>true
 | d+1,i=>(isS (Qe races i)&&wi (rd keep i) 0 100)&&rOk races keep d (i+1)
section
variable (races:List S39) (keep:List Int) (q:List (List (List Int))) (hq:LB q)
theorem qxg (n:Nat) (S si:Int) (s:List (List Int)) (sl ri:Int) (row:List Int) (hn:row.length≤9223372036854775807) (r:Int):∀ (d j:Nat) (b:Bool),j+d=row.length→Ev (fun k=>Qj.l2 k n (b&&(row.drop j).all (fun x=>wi x 0 100000)) q S si s sl (wrap64 (ri+1)) races keep q) r→Ev (fun k=>Qj.l3 k n b q S si s sl ri row (row.length:Int) (j:Int) races keep q) r:=by
 intro d
 induction d with
 | zero =>
  intro j b hj h
  rw [List.drop_eq_nil_of_le (by omega),List.all_nil,Bool.and_true] at h
  refine Ev.step (fun k => ?_) h
  simp only [Qj.l3]
  rw [if_neg (by omega)]
 | succ d ih =>
  intro j b hj h
  have hlt:j<row.length:=by omega
  rw [List.drop_eq_getElem_cons hlt,List.all_cons,← Bool.and_assoc] at h
  refine Ev.step (f:=fun k=>Qj.l3 k n (b&&wi row[j] 0 100000) q S si s sl ri row (row.length:Int) ((j+1:Nat):Int) races keep q) (fun k => ?_) (ih (j+1) _ (by omega) h)
  have hw:=wr1 j row.length hlt (by omega)
  simp only [Qj.l3,GJ,Option.bind_some,hw,rdI row j hlt]
  rw [if_pos (by omega),if_pos (by omega),if_pos (by omega)]
  cases b<;>simp
theorem qry (n:Nat) (S si:Int) (s:List (List Int)) (hs:LB2 s) (r:Int):∀ (d i:Nat) (b:Bool),i+d=s.length→(b=true→0<q.length∧0<(Qs q 0).length)→Ev (fun k=>Qj.l1 k n (b&&(s.drop i).all (qcf (yrs q))) q S (wrap64 (si+1)) races keep q) r→Ev (fun k=>Qj.l2 k n b q S si s (s.length:Int) (i:Int) races keep q) r:=by
 intro d
 induction d with
 | zero =>
  intro i b hi hb h
  rw [List.drop_eq_nil_of_le (by omega),List.all_nil,Bool.and_true] at h
  refine Ev.step (fun k => ?_) h
  simp only [Qj.l2]
  rw [if_neg (by omega)]
 | succ d ih =>
  intro i b hi hb h
  have hlt:i<s.length:=by omega
  have hs1:=hs.1
  rw [List.drop_eq_getElem_cons hlt,List.all_cons,← Bool.and_assoc] at h
  have hrow:s[i].length≤9223372036854775807:=hs.2 _ (List.getElem_mem hlt)
  have hw:=wr1 i s.length hlt (by omega)
  refine Ev.step (f:=fun k=>Qj.j6 k n (b&&(wi (s[i].length:Int) 1 10&&((s[i].length:Int)==(yrs q:Int)))) s[i] q S si s (s.length:Int) (i:Int) races keep q) (fun k => ?_) (Ev.step (f:=fun k=>Qj.l3 k n (b&&(wi (s[i].length:Int) 1 10&&((s[i].length:Int)==(yrs q:Int)))) q S si s (s.length:Int) (i:Int) s[i] (s[i].length:Int) ((0:Nat):Int) races keep q) (fun k=>by simp [Qj.j6]) ?_)
  ·
   simp only [Qj.l2,GJ,Option.bind_some,quk s i hlt]
   rw [if_pos (by omega),if_pos (by omega),if_pos (by omega)]
   cases b with
   | false=>simp
   | true =>
    obtain ⟨g1,g2⟩:=hb rfl
    cases h1:wi (s[i].length:Int) 1 10 with
    | false=>simp
    | true =>
     rw [if_pos rfl,if_pos rfl,if_pos (by omega),if_pos (by omega)]
     rfl
  ·
   refine qxg races keep q n S si s _ _ s[i] hrow r s[i].length 0 _ (by omega) ?_
   rw [hw,List.drop_zero]
   refine ih (i+1) _ (by omega) (fun hh=>hb ?_) ?_
   ·
    simp only [Bool.and_eq_true] at hh
    exact hh.1.1
   ·
    have e:(b&&(wi (s[i].length:Int) 1 10&&((s[i].length:Int)==(yrs q:Int)))&&s[i].all (fun x=>wi x 0 100000)&&(s.drop (i+1)).all (qcf (yrs q)))=(b&&qcf (yrs q) s[i]&&(s.drop (i+1)).all (qcf (yrs q))):=by
     unfold qcf vals;simp only [Bool.and_assoc]
    rw [e]
    exact h
def cres (b:Bool):Int:=if b=true then 0 else 93
include hq in
theorem qxf (n:Nat) (hn1:1≤n):∀ (d i:Nat) (b:Bool),i+d=q.length→(b=true→0<i→(Qs q 0).length=n)→Ev (fun k=>Qj.l1 k n b q (q.length:Int) (i:Int) races keep q) (cres (b&&(q.drop i).all (qcg n (yrs q)))):=by
 intro d
 induction d with
 | zero =>
  intro i b hi hb
  rw [List.drop_eq_nil_of_le (by omega),List.all_nil,Bool.and_true]
  refine Ev.step (f:=fun _=>some (cres b)) (fun k => ?_) (Ev.now _)
  simp only [Qj.l1]
  rw [if_neg (by omega)]
  cases b<;>rfl
 | succ d ih =>
  intro i b hi hb
  have hlt:i<q.length:=by omega
  have hq1:=hq.1
  have hw:=wr1 i q.length hlt (by omega)
  rw [List.drop_eq_getElem_cons hlt,List.all_cons]
  have hbn:(b&&((q[i].length:Int)==(n:Int)))=true→(Qs q 0).length=n:=fun hh=>by
   rw [Bool.and_eq_true] at hh
   by_cases h0:0<i
   ·
    exact hb hh.1 h0
   ·
    have e0:i=0:=by omega
    subst e0;have:=qoY q 0 hlt;have h2:=hh.2
    simp at h2
    rw [show Qs q 0=q[0] from this]
    omega
  refine Ev.step (f:=fun k=>Qj.j4 k n (b&&((q[i].length:Int)==(n:Int))) q[i] q (q.length:Int) (i:Int) races keep q) (fun k => ?_) (Ev.step (f:=fun k=>Qj.l2 k n (b&&((q[i].length:Int)==(n:Int))) q (q.length:Int) (i:Int) q[i] (q[i].length:Int) ((0:Nat):Int) races keep q) (fun k=>by simp [Qj.j4]) ?_)
  ·
   simp only [Qj.l1,qoY q i hlt]
   rw [if_pos (by omega),if_pos (by omega),if_pos (by omega)]
   cases b<;>simp
  ·
   refine qry races keep q n _ _ q[i] (hq.2 _ (List.getElem_mem hlt)) _ q[i].length 0 _ (by omega) (fun hh=>⟨by omega,by rw [hbn hh];omega⟩) ?_
   rw [hw,List.drop_zero]
   have e:(b&&(qcg n (yrs q) q[i]&&(q.drop (i+1)).all (qcg n (yrs q))))=(b&&((q[i].length:Int)==(n:Int))&&q[i].all (qcf (yrs q))&&(q.drop (i+1)).all (qcg n (yrs q))):=by
    unfold qcg;simp only [Bool.and_assoc]
   rw [e]
   refine ih (i+1) _ (by omega) (fun hh _=>hbn ?_)
   rw [Bool.and_eq_true] at hh
   exact hh.1
theorem qxe (n:Nat) (hn:races.length=n) (hnb:n≤3) (r:Int):∀ (d i:Nat) (b:Bool),i+d=n→(b=true→keep.length=n)→Ev (fun k=>Qj.l1 k n (b&&rOk races keep d i) q (q.length:Int) ((0:Nat):Int) races keep q) r→Ev (fun k=>Qj.l0 k n b (i:Int) races keep q) r:=by
 have HF:∀ (i:Int) (b:Bool),Ev (fun k=>Qj.l1 k n b q (q.length:Int) ((0:Nat):Int) races keep q) r→Ev (fun k=>Qj.j2 k n b i false races keep q) r:=fun i b h=>by
  refine Ev.step (fun k => ?_) h
  simp [Qj.j2]
 intro d
 induction d with
 | zero =>
  intro i b hi hb h
  rw [rOk,Bool.and_true] at h
  refine Ev.step (f:=fun k=>Qj.j2 k n b (i:Int) false races keep q) (fun k => ?_) (HF _ _ h)
  simp only [Qj.l0]
  rw [decide_eq_false (by omega:¬ (i:Int)<(n:Int))]
  cases b<;>rfl
 | succ d ih =>
  intro i b hi hb h
  cases b with
  | false =>
   rw [Bool.false_and] at h
   refine Ev.step (f:=fun k=>Qj.j2 k n false (i:Int) false races keep q) (fun k => ?_) (HF _ _ h)
   simp [Qj.l0]
  | true =>
   have hk:=hb rfl
   rw [Bool.true_and,rOk] at h
   have hw:=wr1 i n (by omega) (by omega)
   refine Ev.step (f:=fun k=>Qj.j2 k n true (i:Int) true races keep q) (fun k => ?_) ?_
   ·
    simp only [Qj.l0];rw [decide_eq_true (by omega:(i:Int)<(n:Int))]
    rfl
   ·
    refine Ev.step (f:=fun k=>(Qi.f k ((Qe races i).f0) ((Qe races i).f1) ((Qe races i).f2) ((Qe races i).f3) ((Qe races i).f4)).bind fun qkR=>(if qkR=true then (Qj.l0 k n (wi (rd keep i) 0 100) ((i+1:Nat):Int) races keep q) else (Qj.l0 k n false ((i+1:Nat):Int) races keep q))) (fun k => ?_) (Ev.bind (qhs _ _ _ _ _) ?_)
    ·
     have g1:(0:Int)≤(i:Int):=by omega
     have g2:(i:Int)<(races.length:Int):=by omega
     have g3:(i:Int)<(keep.length:Int):=by omega
     simp only [Qj.j2,GJ,Option.bind_some,hw,if_pos g1,if_pos g2,if_pos g3,if_true]
    ·
     have e1:isR ((Qe races i).f0) ((Qe races i).f1) ((Qe races i).f2) ((Qe races i).f3) ((Qe races i).f4)=isS (Qe races i):=rfl;rw [e1]
     cases h1:isS (Qe races i) with
     | false =>
      rw [h1] at h;simp only [Bool.false_and] at h
      exact ih (i+1) false (by omega) (fun _=>hk) (by simpa using h)
     | true =>
      rw [h1] at h;simp only [Bool.true_and] at h
      exact ih (i+1) _ (by omega) (fun _=>hk) h
def okA (races:List S39) (keep:List Int) (q:List (List (List Int))):Bool :=
 (((wi (races.length:Int) 1 3&&decide (keep.length=races.length))&&wi (q.length:Int) 1 6)&&rOk races keep races.length 0)&&q.all (qcg races.length (yrs q))
include hq in
theorem qi3 (n:Nat):∀ (d i:Nat),i+d=q.length→Ev (fun k=>Qj.l1 k n false q (q.length:Int) (i:Int) races keep q) 93:=by
 intro d
 induction d with
 | zero =>
  intro i hi
  refine Ev.step (f:=fun _=>some 93) (fun k => ?_) (Ev.now _)
  simp only [Qj.l1]
  rw [if_neg (by omega)]
  rfl
 | succ d ih =>
  intro i hi
  have hlt:i<q.length:=by omega
  have hq1:=hq.1
  have hw:=wr1 i q.length hlt (by omega)
  refine Ev.step (f:=fun k=>Qj.j4 k n false q[i] q (q.length:Int) (i:Int) races keep q) (fun k => ?_) (Ev.step (f:=fun k=>Qj.l2 k n false q (q.length:Int) (i:Int) q[i] (q[i].length:Int) ((0:Nat):Int) races keep q) (fun k=>by simp [Qj.j4]) ?_)
  ·
   simp only [Qj.l1,qoY q i hlt]
   rw [if_pos (by omega),if_pos (by omega),if_pos (by omega)]
   simp
  ·
   refine qry races keep q n _ _ q[i] (hq.2 _ (List.getElem_mem hlt)) _ q[i].length 0 _ (by omega) (fun hh=>by simp at hh) ?_
   rw [hw,Bool.false_and]
   exact ih (i+1) (by omega)
theorem qi2 (n:Nat) (hq':LB q):Ev (fun k=>Qj.j0 k n false races keep q) 93:=by
 refine Ev.step (f:=fun k=>Qj.l0 k n false 0 races keep q) (fun k=>by simp [Qj.j0]) ?_
 refine Ev.step (f:=fun k=>Qj.j2 k n false 0 false races keep q) (fun k=>by simp [Qj.l0]) ?_
 refine Ev.step (f:=fun k=>Qj.l1 k n false q (q.length:Int) ((0:Nat):Int) races keep q) (fun k=>by simp [Qj.j2]) ?_
 exact qi3 races keep q hq' n q.length 0 (by omega)
include hq in
theorem WN:Ev (fun k=>Qj.f k races keep q) (cres (okA races keep q)):=by
 have HF:=qi2 races keep q races.length hq
 unfold okA
 simp only [Qj.f,GJ,Option.bind_some]
 cases h1:wi (races.length:Int) 1 3 with
 | false=>simpa [cres] using HF
 | true =>
  have g1:=GT.1 h1
  by_cases h2:keep.length=races.length
  ·
   simp only [h2,if_true,decide_true,Bool.true_and,Bool.and_true]
   refine Ev.step (f:=fun k=>Qj.l0 k (races.length:Int) (wi (q.length:Int) 1 6) ((0:Nat):Int) races keep q) (fun k=>by simp [Qj.j0]) ?_
   refine qxe races keep q races.length rfl (by omega) _ races.length 0 _ (by omega) (fun _=>h2) ?_
   have h:=qxf races keep q hq races.length (by omega) q.length 0 (wi (q.length:Int) 1 6&&rOk races keep races.length 0) (by omega) (fun _ hh=>absurd hh (by omega))
   simpa using h
  ·
   have h2':¬ (keep.length:Int)=(races.length:Int):=by omega
   simpa [h2,h2',cres] using HF
end
theorem qxl {q:List (List (List Int))} {n:Nat} (hn:1≤n) (h:q.all (qcg n (yrs q))=true) (h1:1≤q.length):wi (yrs q:Int) 1 10=true:=by
 have h0:=List.all_eq_true.1 h q[0] (List.getElem_mem (by omega))
 unfold qcg at h0
 rw [Bool.and_eq_true] at h0
 have hl:q[0].length=n:=by have:=h0.1;simp at this;omega
 have hr:=List.all_eq_true.1 h0.2 q[0][0] (List.getElem_mem (by omega))
 unfold qcf at hr
 simp only [Bool.and_eq_true] at hr
 have e:yrs q=q[0][0].length:=by
  unfold yrs
  have e1:=qoY q 0 (by omega)
  have e2:=quk q[0] 0 (by omega)
  rw [show Qs q 0=q[0] from e1,show QC q[0] 0=q[0][0] from e2]
 rw [e]
 exact hr.1.1
structure Fish (races:List S39) (keep:List Int) (q:List (List (List Int))):Prop where
 n1:1≤races.length
 n3:races.length≤3
 hk:keep.length=races.length
 s1:1≤q.length
 s6:q.length≤6
 y1:1≤yrs q
 y10:yrs q≤10
 ra:∀ i:Nat,i<races.length→isS (Qe races i)=true∧wi (rd keep i) 0 100=true
 se:∀ s:Nat,s<q.length→(Qs q s).length=races.length ∧ ∀ r:Nat,r<races.length→(QC (Qs q s) r).length=yrs q
theorem qru {races:List S39} {keep:List Int}:∀ (d i:Nat),rOk races keep d i=true → ∀ j:Nat,i≤j→j<i+d→isS (Qe races j)=true∧wi (rd keep j) 0 100=true
 | 0,i,_,j,h1,h2=>by omega
 | d+1,i,h,j,h1,h2=>by
  rw [rOk,Bool.and_eq_true,Bool.and_eq_true] at h
  by_cases hj:j=i
  ·
   rw [hj];exact h.1
  ·
   exact qru d (i+1) h.2 j (by omega) (by omega)
theorem qcW {races:List S39} {keep:List Int} {q:List (List (List Int))} (h:okA races keep q=true):Fish races keep q:=by
 unfold okA at h
 simp only [Bool.and_eq_true,decide_eq_true_eq] at h
 obtain ⟨⟨⟨⟨h1,h2⟩,h3⟩,h4⟩,h5⟩:=h
 have g1:=GT.1 h1
 have g3:=GT.1 h3
 have g5:=GT.1 (qxl (by omega) h5 (by omega))
 refine ⟨by omega,by omega,h2,by omega,by omega,by omega,by omega,fun i hi=>qru _ _ h4 i (by omega) (by omega),fun s hs => ?_⟩
 have h6:=List.all_eq_true.1 h5 q[s] (List.getElem_mem hs)
 rw [qoY q s hs]
 unfold qcg at h6
 rw [Bool.and_eq_true] at h6
 have hl:q[s].length=races.length:=by have:=h6.1;simp at this;omega
 refine ⟨hl,fun r hr => ?_⟩
 have h7:=List.all_eq_true.1 h6.2 q[s][r] (List.getElem_mem (by omega))
 rw [quk q[s] r (by omega)]
 unfold qcf at h7
 simp only [Bool.and_eq_true] at h7
 have:=h7.1.2
 simp at this
 omega
end
section
def upT (a:Int):Int:=wrap64 (Int.tdiv (wrap64 (wrap64 a+99)) 100)
theorem qA5 (a:Int) (h0:0≤a) (h1:a≤10000000):GN.f (wrap64 a) 100=some (upT a):=by
 have e0:wrap64 a=a:=by unfold wrap64;omega
 have e1:wrap64 (-a) = -a:=by unfold wrap64;omega
 have e2:wrap64 (a+99)=a+99:=by unfold wrap64;omega
 have t1:Int.tmod (-a) 100 = -(a % 100):=by rw [Int.neg_tmod,Int.tmod_eq_emod_of_nonneg h0]
 have m1:QX.f (-a) 100=some (if a % 100=0 then 0 else 100-a % 100):=by
  unfold QX.f
  rw [if_neg (by decide),t1]
  by_cases hz:a % 100=0
  ·
   rw [if_neg (by omega),if_pos hz,hz];rfl
  ·
   rw [if_pos (by omega),if_neg hz]
   congr 1
   unfold wrap64
   omega
 unfold GN.f Gu.f upT
 rw [e0,e1,m1,e2]
 simp only [Option.bind_some]
 rw [if_neg (by decide)]
 simp only [Option.bind_some]
 congr 1
 rw [Int.tdiv_eq_ediv_of_nonneg (by omega:0≤a+99)]
 by_cases hz:a % 100=0
 ·
  rw [if_pos hz]
  have e3:wrap64 (-a-0) = -a:=by unfold wrap64;omega
  rw [e3,Int.neg_tdiv,Int.tdiv_eq_ediv_of_nonneg h0]
  unfold wrap64
  omega
 ·
  rw [if_neg hz]
  have e3:wrap64 (-a-(100-a % 100)) = -(a+(100-a % 100)):=by unfold wrap64;omega
  rw [e3,Int.neg_tdiv,Int.tdiv_eq_ediv_of_nonneg (by omega)]
  unfold wrap64
  omega
def brL (m:Nat) (mesh:Int) (keep spawn:List Int) (line tk:Int) (rc:List Int):Nat→Nat→List Int→Int
 | 0,_,_ => -1
 | d+1,i,n=>if (GD m mesh keep spawn n tk (rd rc i)).1<line then (i:Int) else brL m mesh keep spawn line tk rc d (i+1) (GD m mesh keep spawn n tk (rd rc i)).2
theorem qor (m:Nat) (mesh:Int) (keep spawn:List Int) (line tk:Int) (rc:List Int) (n:List Int) (x:Int) (h1:(GD m mesh keep spawn n tk x).2=n) (h2:¬ (GD m mesh keep spawn n tk x).1<line):∀ (d i:Nat),(∀ j:Nat,i≤j→j<i+d→rd rc j=x)→brL m mesh keep spawn line tk rc d i n = -1:=by
 intro d
 induction d with
 | zero=>intro i h;rfl
 | succ d ih =>
  intro i h
  rw [brL,h i (by omega) (by omega),if_neg h2,h1]
  exact ih (i+1) (fun j g1 g2=>h j (by omega) (by omega))
theorem qxd {a b:List Int} (ha:a.length=6) (hb:b.length=6) (h:(rd a 0==rd b 0&&(rd a 1==rd b 1&&(rd a 2==rd b 2&&(rd a 3==rd b 3&&(rd a 4==rd b 4&&(rd a 5==rd b 5))))))=true):a=b:=by
 simp only [Bool.and_eq_true,beq_iff_eq] at h
 obtain ⟨h0,h1,h2,h3,h4,h5⟩:=h
 rw [← six ha,← six hb,h0,h1,h2,h3,h4,h5]
theorem qkQ (l0 l1 l2:List Int) (a3 a4:Int) (ho:okR l0 l1 l2 a4) (tk:Int) (rc:List Int) (h10:rc.length≤10):∀ (d i:Nat) (n:List Int),n.length=6→i+d=rc.length→Ev (fun k=>Qy.l0 k tk rc rc (rc.length:Int) (i:Int) l0 l1 l2 a3 a4 (rd n 0) (rd n 1) (rd n 2) (rd n 3) (rd n 4) (rd n 5)) (brL l0.length a4 l1 l2 a3 tk rc d i n):=by
 intro d
 induction d with
 | zero =>
  intro i n hn hi
  refine Ev.step (f:=fun _=>some (-1)) (fun k => ?_) (Ev.now _)
  simp only [Qy.l0]
  rw [if_neg (by omega)]
 | succ d ih =>
  intro i n hn hi
  have h6:=qhw l0.length a4 l1 l2 n tk (rd rc i)
  have hw:=wr1 i rc.length (by omega) (by omega)
  rw [brL]
  by_cases c1:(GD l0.length a4 l1 l2 n tk (rd rc i)).1<a3
  ·
   rw [if_pos c1]
   refine Ev.step (f:=fun _=>some (i:Int)) (fun k => ?_) (Ev.now _)
   simp only [Qy.l0,hw,YY.f,six hn]
   rw [if_pos (by omega),if_pos (by omega),if_pos (by omega),if_pos ho,Option.bind_some,if_pos c1]
  ·
   rw [if_neg c1]
   by_cases c2:(rd (GD l0.length a4 l1 l2 n tk (rd rc i)).2 0==rd n 0&&(rd (GD l0.length a4 l1 l2 n tk (rd rc i)).2 1==rd n 1&&(rd (GD l0.length a4 l1 l2 n tk (rd rc i)).2 2==rd n 2&&(rd (GD l0.length a4 l1 l2 n tk (rd rc i)).2 3==rd n 3&&(rd (GD l0.length a4 l1 l2 n tk (rd rc i)).2 4==rd n 4&&(rd (GD l0.length a4 l1 l2 n tk (rd rc i)).2 5==rd n 5))))))=true
   ·
    have he:=qxd h6 hn c2
    cases c3:(rc.drop i).any (fun z=>z != rd rc i) with
    | true =>
     refine Ev.step (fun k => ?_) (ih (i+1) _ h6 (by omega));simp only [Qy.l0,hw,YY.f,six hn];rw [if_pos (by omega),if_pos (by omega),if_pos (by omega),if_pos ho,Option.bind_some,if_neg c1,if_pos c2,if_pos (by omega)]
     simp only [ZO.f,Option.bind_some,Int.toNat_natCast,c3,if_true]
    | false =>
     have hq:∀ j:Nat,i+1≤j→j<i+1+d→rd rc j=rd rc i:=fun j g1 g2=>by
      have hj:j<rc.length:=by omega
      rw [rdI rc j hj]
      have hm:rc[j]∈rc.drop i:=by
       rw [List.mem_drop_iff_getElem]
       exact ⟨j-i,by omega,by congr 1;omega⟩
      have:=List.any_eq_false.1 c3 _ hm
      simpa using this
     have hb:=qor l0.length a4 l1 l2 a3 tk rc n (rd rc i) he c1 d (i+1) hq;rw [he,hb];refine Ev.step (f:=fun _=>some (-1)) (fun k => ?_) (Ev.now _);simp only [Qy.l0,hw,YY.f,six hn];rw [if_pos (by omega),if_pos (by omega),if_pos (by omega),if_pos ho,Option.bind_some,if_neg c1,if_pos c2,if_pos (by omega)];simp only [ZO.f,Option.bind_some,Int.toNat_natCast,c3]
     rfl
   ·
    refine Ev.step (fun k => ?_) (ih (i+1) _ h6 (by omega));simp only [Qy.l0,hw,YY.f,six hn];rw [if_pos (by omega),if_pos (by omega),if_pos (by omega),if_pos ho,Option.bind_some,if_neg c1,if_neg c2]
def stt (s:S39) (tk:Int) (rc:List Int):Nat→List Int
 | 0=>[rd s.f0 0,rd s.f0 1,rd s.f0 2,rd s.f0 3,rd s.f0 4,rd s.f0 5]
 | i+1=>(GD s.f0.length s.f4 s.f1 s.f2 (stt s tk rc i) tk (rd rc i)).2
def spw (s:S39) (tk:Int) (rc:List Int) (i:Nat):Int:=(GD s.f0.length s.f4 s.f1 s.f2 (stt s tk rc i) tk (rd rc i)).1
def brS (s:S39) (tk:Int) (rc:List Int):Int:=brL s.f0.length s.f4 s.f1 s.f2 s.f3 tk rc rc.length 0 (stt s tk rc 0)
theorem qsn (s:S39) (tk:Int) (rc:List Int):∀ (d i:Nat),(brL s.f0.length s.f4 s.f1 s.f2 s.f3 tk rc d i (stt s tk rc i) = -1 ∧ ∀ j,i≤j→j<i+d → ¬ spw s tk rc j<s.f3) ∨
  (∃ j:Nat,i≤j∧j<i+d∧brL s.f0.length s.f4 s.f1 s.f2 s.f3 tk rc d i (stt s tk rc i)=(j:Int)∧spw s tk rc j<s.f3 ∧ ∀ h,i≤h→h<j → ¬ spw s tk rc h<s.f3):=by
 intro d
 induction d with
 | zero=>intro i;exact .inl ⟨rfl,fun j h1 h2=>by omega⟩
 | succ d ih =>
  intro i
  rw [brL]
  by_cases c:(GD s.f0.length s.f4 s.f1 s.f2 (stt s tk rc i) tk (rd rc i)).1<s.f3
  ·
   rw [if_pos c]
   exact .inr ⟨i,by omega,by omega,rfl,c,fun h h1 h2=>by omega⟩
  ·
   rw [if_neg c]
   rcases ih (i+1) with ⟨h1,h2⟩|⟨j,h1,h2,h3,h4,h5⟩
   ·
    refine .inl ⟨h1,fun j g1 g2 => ?_⟩
    by_cases hj:j=i
    ·
     rw [hj];exact c
    ·
     exact h2 j (by omega) (by omega)
   ·
    refine .inr ⟨j,by omega,by omega,h3,h4,fun h g1 g2 => ?_⟩
    by_cases hj:h=i
    ·
     rw [hj];exact c
    ·
     exact h5 h (by omega) g2
theorem qua (s:S39) (tk:Int) (tks rc:List Int):∀ (d i:Nat) (acc:List Int),(∀ j:Nat,i≤j→j<i+d→rd tks j=tk)→plL s.f0.length s.f4 s.f1 s.f2 tks rc d i (stt s tk rc i) acc=acc++(List.range' i d).map (spw s tk rc):=by
 intro d
 induction d with
 | zero=>intro i acc h;simp [plL]
 | succ d ih =>
  intro i acc h
  rw [plL,h i (by omega) (by omega)]
  have:=ih (i+1) (acc++[spw s tk rc i]) (fun j g1 g2=>h j (by omega) (by omega))
  rw [show (GD s.f0.length s.f4 s.f1 s.f2 (stt s tk rc i) tk (rd rc i)).2=stt s tk rc (i+1) from rfl,show (GD s.f0.length s.f4 s.f1 s.f2 (stt s tk rc i) tk (rd rc i)).1=spw s tk rc i from rfl,this,List.range'_succ]
  simp
theorem qlH (i d t r a:Nat) (h1:i+(d+1)=t) (h2:t≤r) (h3:t≤10) (h4:a=i):wrap64 ((i:Int)+1)=((i+1:Nat):Int)∧(i:Int)<(t:Int)∧(0:Int)≤(i:Int)∧a<17592186044416∧(i:Int)<(r:Int) :=
 ⟨wr1 i t (by omega) (by omega),by omega,Int.natCast_nonneg i,by omega,by omega⟩
def upd (B:Nat × Nat→Int) (b:Int × Int × Int) (p:Nat × Nat):Int × Int × Int :=
 if B p≥0 then (if b.2.2<0 then ((p.1:Int),(p.2:Int),B p) else (if B p<b.2.2 then ((p.1:Int),(p.2:Int),B p) else b)) else b
def finF (b:Int × Int × Int):Int × Int × Int × Int:=if b.2.2<0 then (0,0,0,4) else (b.1,b.2.1,b.2.2,0)
def InvB (B:Nat × Nat→Int) (done:List (Nat × Nat)) (b:Int × Int × Int):Prop :=
 (b.2.2<0 ∧ ∀ p∈done,B p<0) ∨
 (∃ pre p post,done=pre++p::post∧b=((p.1:Int),(p.2:Int),B p)∧0≤B p∧(∀ z∈pre,B z<0∨B p<B z) ∧ ∀ z∈post,B z<0∨B p≤B z)
theorem qra (B:Nat × Nat→Int) (done:List (Nat × Nat)) (b:Int × Int × Int) (p:Nat × Nat) (h:InvB B done b):InvB B (done++[p]) (upd B b p):=by
 unfold upd
 rcases h with ⟨h1,h2⟩|⟨pre,z,post,h1,h2,h3,h4,h5⟩
 ·
  by_cases c:B p≥0
  ·
   rw [if_pos c,if_pos h1]
   exact .inr ⟨done,p,[],rfl,rfl,c,fun z hz => .inl (h2 z hz),fun z hz=>by simp at hz⟩
  ·
   rw [if_neg c]
   refine .inl ⟨h1,fun z hz => ?_⟩
   rw [List.mem_append] at hz
   rcases hz with hz|hz
   ·
    exact h2 z hz
   ·
    simp at hz;rw [hz];omega
 ·
  have hb:b.2.2=B z:=by rw [h2]
  have keepIt:(B p<0∨B z≤B p)→InvB B (done++[p]) b:=fun g=>by
   refine .inr ⟨pre,z,post++[p],by rw [h1];simp,h2,h3,h4,fun x hx => ?_⟩
   rw [List.mem_append] at hx
   rcases hx with hx|hx
   ·
    exact h5 x hx
   ·
    simp at hx;rw [hx];exact g
  by_cases c:B p≥0
  ·
   rw [if_pos c,hb,if_neg (by omega)]
   by_cases c2:B p<B z
   ·
    rw [if_pos c2];refine .inr ⟨done,p,[],rfl,rfl,c,fun x hx => ?_,fun x hx=>by simp at hx⟩;rw [h1,List.mem_append,List.mem_cons] at hx
    rcases hx with hx|hx|hx
    ·
     rcases h4 x hx with g|g
     ·
      exact .inl g
     ·
      exact .inr (by omega)
    ·
     rw [hx];exact .inr c2
    ·
     rcases h5 x hx with g|g
     ·
      exact .inl g
     ·
      exact .inr (by omega)
   ·
    rw [if_neg c2]
    exact keepIt (.inr (by omega))
  ·
   rw [if_neg c]
   exact keepIt (.inl (by omega))
theorem qkC (B:Nat × Nat→Int):∀ (L done:List (Nat × Nat)) (b:Int × Int × Int),InvB B done b→InvB B (done++L) (L.foldl (upd B) b)
 | [],done,b,h=>by simpa using h
 | p::L,done,b,h=>by
  have:=qkC B L (done++[p]) _ (qra B done b p h)
  simpa using this
section
variable (races:List S39) (keep:List Int) (q:List (List (List Int)))
def tkR (a:Int) (r:Nat):Int:=upT (a*rd keep r)
def UP (p:Nat × Nat):List Int:=QC (Qs q p.2) p.1
def brP (a:Int) (p:Nat × Nat):Int:=brS (Qe races p.1) (tkR keep a p.1) (UP q p)
def Fy (a:Int) (y:Nat) (p:Nat × Nat):Bool:=decide (spw (Qe races p.1) (tkR keep a p.1) (UP q p) y<(Qe races p.1).f3)
def rowL (r:Nat):Nat→Nat→List (Nat × Nat)
 | 0,_=>[]
 | d+1,s=>(r,s)::rowL r d (s+1)
def allL (S:Nat):Nat→Nat→List (Nat × Nat)
 | 0,_=>[]
 | d+1,r=>rowL r S 0++allL S d (r+1)
variable {races keep q} (hf:Fish races keep q)
include hf
theorem qoA (a:Int) (r s:Nat) (hr:r<races.length) (hs:s<q.length):Ev (fun k=>Qy.f k races keep q (r:Int) (s:Int) a) (brP races keep q a (r,s)):=by
 have hS:=(hf.ra r hr).1
 have ho:=(qrb hS).1
 have h1:=(hf.se s hs).1
 have h2:=(hf.se s hs).2 r hr
 have hk:=hf.hk
 have hy:=hf.y10
 have h:=qkQ (Qe races r).f0 (Qe races r).f1 (Qe races r).f2 (Qe races r).f3 (Qe races r).f4 ho (tkR keep a r) (UP q (r,s)) (by unfold UP;simp only;omega) (UP q (r,s)).length 0 (stt (Qe races r) (tkR keep a r) (UP q (r,s)) 0) rfl (by omega)
 refine Ev.congr (fun k => ?_) h
 simp only [Qy.f]
 rw [if_pos (by omega),if_pos (by omega),if_pos (by omega),qj3 _ _ _ _ _ ho.2.1,Option.bind_some,if_pos (by omega),if_pos (by omega),if_pos (by omega)]
 rfl
theorem qhP (a:Int) (r s:Nat) (hr:r<races.length) (hs:s<q.length):(brP races keep q a (r,s) = -1 ∧ ∀ j,j<yrs q→Fy races keep q a j (r,s)=false) ∨
  (∃ j:Nat,j<yrs q∧brP races keep q a (r,s)=(j:Int)∧Fy races keep q a j (r,s)=true ∧ ∀ h,h<j→Fy races keep q a h (r,s)=false):=by
 have h2:(UP q (r,s)).length=yrs q:=(hf.se s hs).2 r hr
 rcases qsn (Qe races r) (tkR keep a r) (UP q (r,s)) (UP q (r,s)).length 0 with ⟨h3,h4⟩|⟨j,h3,h4,h5,h6,h7⟩
 ·
  exact .inl ⟨h3,fun j hj=>decide_eq_false (h4 j (by omega) (by omega))⟩
 ·
  exact .inr ⟨j,by omega,h5,decide_eq_true h6,fun h hh=>decide_eq_false (h7 h (by omega) hh)⟩
theorem qoz (a:Int) (r:Nat) (hr:r<races.length) (R:Int × Int × Int × Int):∀ (d s:Nat) (b:Int × Int × Int),s+d=q.length→Ev (fun k=>Yf.l0 k a ((rowL r d s).foldl (upd (brP races keep q a)) b).1 ((rowL r d s).foldl (upd (brP races keep q a)) b).2.1 ((rowL r d s).foldl (upd (brP races keep q a)) b).2.2 (races.length:Int) ((r+1:Nat):Int) races keep q) R →
  Ev (fun k=>Yf.l1 k a b.1 b.2.1 b.2.2 (r:Int) (races.length:Int) (r:Int) (q.length:Int) (s:Int) races keep q) R:=by
 have h3:=hf.n3
 have h6:=hf.s6
 intro d
 induction d with
 | zero =>
  intro s b hs h
  have hw:=wr1 r races.length hr (by omega)
  refine Ev.step (fun k => ?_) h
  simp only [Yf.l1,hw]
  rw [if_neg (by omega)]
  rfl
 | succ d ih =>
  intro s b hs h
  have hw:=wr1 s q.length (by omega) (by omega)
  have h':=ih (s+1) (upd (brP races keep q a) b (r,s)) (by omega) h
  refine Ev.step (f:=fun k=>(Qy.f k races keep q (r:Int) (s:Int) a).bind fun t236=>(if t236≥0 then (if b.2.2<0 then (Yf.l1 k a (r:Int) (s:Int) t236 (r:Int) (races.length:Int) (r:Int) (q.length:Int) ((s+1:Nat):Int) races keep q) else (if t236<b.2.2 then (Yf.l1 k a (r:Int) (s:Int) t236 (r:Int) (races.length:Int) (r:Int) (q.length:Int) ((s+1:Nat):Int) races keep q) else (Yf.l1 k a b.1 b.2.1 b.2.2 (r:Int) (races.length:Int) (r:Int) (q.length:Int) ((s+1:Nat):Int) races keep q))) else (Yf.l1 k a b.1 b.2.1 b.2.2 (r:Int) (races.length:Int) (r:Int) (q.length:Int) ((s+1:Nat):Int) races keep q))) (fun k => ?_) (Ev.bind (qoA hf a r s hr (by omega)) ?_)
  ·
   simp only [Yf.l1,hw]
   rw [if_pos (by omega)]
  ·
   unfold upd at h'
   by_cases c1:brP races keep q a (r,s)≥0
   ·
    by_cases c2:b.2.2<0
    ·
     simp only [if_pos c1,if_pos c2] at h' ⊢
     exact h'
    ·
     by_cases c3:brP races keep q a (r,s)<b.2.2
     ·
      simp only [if_pos c1,if_neg c2,if_pos c3] at h' ⊢
      exact h'
     ·
      simp only [if_pos c1,if_neg c2,if_neg c3] at h' ⊢
      exact h'
   ·
    simp only [if_neg c1] at h' ⊢
    exact h'
theorem qoy (a:Int):∀ (d r:Nat) (b:Int × Int × Int),r+d=races.length→Ev (fun k=>Yf.l0 k a b.1 b.2.1 b.2.2 (races.length:Int) (r:Int) races keep q) (finF ((allL q.length d r).foldl (upd (brP races keep q a)) b)):=by
 intro d
 induction d with
 | zero =>
  intro r b hr
  refine Ev.step (f:=fun _=>some (finF b)) (fun k => ?_) (Ev.now _)
  simp only [Yf.l0]
  rw [if_neg (by omega)]
  unfold finF
  split<;>rfl
 | succ d ih =>
  intro r b hr
  have h:=qoz hf a r (by omega) _ q.length 0 b (by omega) (ih (r+1) ((rowL r q.length 0).foldl (upd (brP races keep q a)) b) (by omega))
  rw [allL,List.foldl_append]
  refine Ev.step (fun k => ?_) h
  simp only [Yf.l0]
  rw [if_pos (by omega)]
  rfl
theorem qqc (S:Nat):∀ (d r:Nat) (p:Nat × Nat),p∈allL S d r→p.1<r+d∧p.2<S:=by
 have hrow:∀ (r d s:Nat) (p:Nat × Nat),p∈rowL r d s→p.1=r∧p.2<s+d:=by
  intro r d
  induction d with
  | zero=>intro s p h;simp [rowL] at h
  | succ d ih =>
   intro s p h
   rw [rowL,List.mem_cons] at h
   rcases h with rfl|h
   ·
    exact ⟨rfl,by simp only;omega⟩
   ·
    have:=ih (s+1) p h;omega
 intro d
 induction d with
 | zero=>intro r p h;simp [allL] at h
 | succ d ih =>
  intro r p h
  rw [allL,List.mem_append] at h
  rcases h with h|h
  ·
   have:=hrow r S 0 p h;omega
  ·
   have:=ih (r+1) p h;omega
end
end
section
theorem qlV (a b:Int) (hb:0<b) (hb2:b≤4611686018427387904):QX.f a b=some (a % b):=by
 unfold QX.f
 rw [if_neg (by omega)]
 have h1:=Int.tmod_lt_of_pos a hb
 have h2:Int.tmod a b=a % b∨Int.tmod a b=a % b-b:=by
  rw [Int.tmod_eq_emod]
  split
  ·
   left;simp
  ·
   right
   have:(b.natAbs:Int)=b:=by omega
   rw [this]
 have h3:=Int.emod_nonneg a (by omega:b≠0)
 have h4:=Int.emod_lt_of_pos a hb
 rcases h2 with h2|h2
 ·
  rw [if_neg (by omega),h2]
 ·
  rw [if_pos (by omega),h2]
  congr 1
  unfold wrap64
  omega
theorem qrf {races:List S39} {keep:List Int} {q:List (List (List Int))} (h:okA races keep q=true) (s r:Nat) (hs:s<q.length) (hr:r<races.length):vals (QC (Qs q s) r)=true:=by
 have hf:=qcW h
 unfold okA at h
 simp only [Bool.and_eq_true,decide_eq_true_eq] at h
 have h6:=List.all_eq_true.1 h.2 q[s] (List.getElem_mem hs)
 have hl:=(hf.se s hs).1
 rw [qoY q s hs] at hl ⊢
 unfold qcg at h6
 rw [Bool.and_eq_true] at h6
 have h7:=List.all_eq_true.1 h6.2 q[s][r] (List.getElem_mem (by omega))
 rw [quk q[s] r (by omega)]
 unfold qcf at h7
 rw [Bool.and_eq_true] at h7
 exact h7.2
theorem qxi {a:Int} (h0:0≤a) (h1:a≤10000000):0≤upT a∧upT a≤100000000:=by
 have e0:wrap64 a=a:=by unfold wrap64;omega
 have e2:wrap64 (a+99)=a+99:=by unfold wrap64;omega
 unfold upT
 rw [e0,e2,Int.tdiv_eq_ediv_of_nonneg (by omega:0≤a+99)]
 unfold wrap64
 omega
section
variable {races:List S39} {keep:List Int} {q:List (List (List Int))} (hA:okA races keep q=true)
include hA
theorem qoB (a:Int) (ha0:0≤a) (ha1:a≤10001) (r s:Nat) (hr:r<races.length) (hs:s<q.length):Ev (fun k=>Qt.f k races keep q (r:Int) (s:Int) a []) ((List.range' 0 (yrs q)).map (spw (Qe races r) (tkR keep a r) (UP q (r,s))),0):=by
 have hf:=qcW hA
 have hk:=hf.hk
 have e1:=(hf.se s hs).1
 have e2:(QC (Qs q s) r).length=yrs q:=(hf.se s hs).2 r hr
 have hS:=(hf.ra r hr).1
 have hy1:=hf.y1
 have qAY:=hf.y10
 have g:=GT.1 (hf.ra r hr).2
 have b0:0≤a*rd keep r:=Int.mul_nonneg ha0 g.1
 have b1:a*rd keep r≤10001*100:=Int.mul_le_mul ha1 g.2 g.1 (by decide)
 have hup:=qxi b0 (by omega)
 have hP:=qg9 (Qe races r) (List.replicate (yrs q) (tkR keep a r)) (QC (Qs q s) r)
 have hok:plOk (Qe races r) (List.replicate (yrs q) (tkR keep a r)) (QC (Qs q s) r)=true:=by
  unfold plOk
  have v1:isR (Qe races r).f0 (Qe races r).f1 (Qe races r).f2 (Qe races r).f3 (Qe races r).f4=true:=hS
  have v2:wi ((List.replicate (yrs q) (tkR keep a r)).length:Int) 1 10=true:=by rw [List.length_replicate];exact GT.2 ⟨by omega,by omega⟩
  have v3:(((QC (Qs q s) r).length:Int)==((List.replicate (yrs q) (tkR keep a r)).length:Int))=true:=by rw [List.length_replicate,e2];simp
  have v4:(List.replicate (yrs q) (tkR keep a r)).all (fun x=>wi x 0 100000000)=true:=by
   rw [List.all_eq_true]
   intro x hx
   rw [List.eq_of_mem_replicate hx]
   exact GT.2 hup
  have v5:(QC (Qs q s) r).all (fun x=>wi x 0 100000)=true:=qrf hA s r hs hr
  rw [v1,v2,v3,v4,v5]
  rfl
 rw [hok] at hP
 have hV:qeC (Qe races r).f0 (Qe races r).f1 (Qe races r).f2 (Qe races r).f4 (List.replicate (yrs q) (tkR keep a r)) (QC (Qs q s) r) true=((List.range' 0 (yrs q)).map (spw (Qe races r) (tkR keep a r) (UP q (r,s))),0):=by
  unfold qeC plV
  rw [if_pos rfl,List.length_replicate]
  have:=qua (Qe races r) (tkR keep a r) (List.replicate (yrs q) (tkR keep a r)) (UP q (r,s)) (yrs q) 0 [] (fun j g1 g2=>by rw [rdI _ j (by simp;omega)];simp)
  rw [List.nil_append] at this
  rw [← this]
  rfl
 rw [hV] at hP
 have g1:(0:Int)≤(s:Int):=Int.natCast_nonneg s
 have g2:(s:Int)<(q.length:Int):=Int.ofNat_lt.2 hs
 have g3:(0:Int)≤(r:Int):=Int.natCast_nonneg r
 have g4:(r:Int)<((Qs q s).length:Int):=by rw [e1];exact Int.ofNat_lt.2 hr
 have g5:(r:Int)<(keep.length:Int):=by rw [hk];exact Int.ofNat_lt.2 hr
 have g6:(r:Int)<(races.length:Int):=Int.ofNat_lt.2 hr
 have e2':((QC (Qs q s) r).length:Int)=(yrs q:Int):=by rw [e2]
 have hUp:=qA5 _ b0 (Int.le_trans b1 (by decide))
 have e3:wrap64 (upT (a*rd keep r)-0)=upT (a*rd keep r):=by
  obtain ⟨u,hu⟩:∃ u,upT (a*rd keep r)=u:=⟨_,rfl⟩
  rw [hu] at hup ⊢
  clear hP hUp hA
  unfold wrap64;omega
 have e4:mx 0 (upT (a*rd keep r))=upT (a*rd keep r):=by
  obtain ⟨u,hu⟩:∃ u,upT (a*rd keep r)=u:=⟨_,rfl⟩
  rw [hu] at hup ⊢
  clear hP hUp hA
  unfold mx;split<;>omega
 have hM:QX.f 0 20=some 0:=qlV 0 20 (by decide) (by decide)
 have loop:∀ (d i:Nat),i+d=yrs q→Ev (fun k=>Qt.l0 k (r:Int) (s:Int) a [] (List.replicate i (tkR keep a r)) (i:Int) races keep q) ((List.range' 0 (yrs q)).map (spw (Qe races r) (tkR keep a r) (UP q (r,s))),0):=by
  obtain ⟨Y,hY⟩:∃ Y,yrs q=Y:=⟨_,rfl⟩
  rw [hY] at e2' qAY hP ⊢
  intro d
  induction d with
  | zero =>
   intro i hi
   obtain rfl:i=Y:=hi
   refine Ev.step (f:=fun k=>(Qx.f k ((Qe races r).f0) ((Qe races r).f1) ((Qe races r).f2) ((Qe races r).f3) ((Qe races r).f4) (List.replicate i (tkR keep a r)) (QC (Qs q s) r)).bind fun qjY=>(some (qjY.1,qjY.2))) (fun k => ?_) (Ev.bind hP (Ev.now _))
   simp only [Qt.l0]
   rw [if_pos g1,if_pos g2,if_pos g3,if_pos g4,e2',if_neg (Int.lt_irrefl _),if_pos g6]
  | succ d ih =>
   intro i hi
   obtain ⟨hw,g7,_,g8,_⟩:=qlH i d Y Y (List.replicate i (tkR keep a r)).length hi (Nat.le_refl _) qAY List.length_replicate
   refine Ev.step (fun k => ?_) (ih (i+1) (by rw [← hi,Nat.add_assoc,Nat.add_comm 1 d]))
   simp only [Qt.l0,hw]
   rw [if_pos g1,if_pos g2,if_pos g3,if_pos g4,e2',if_pos g7,if_pos g5,hUp]
   have e5:Gv.f [] (i:Int)=some 0:=rfl
   rw [e5]
   simp only [Option.bind_some,hM,e3,e4]
   rw [if_pos g8,List.replicate_succ']
   rfl
 exact loop (yrs q) 0 (Nat.zero_add _)
end
def lexP (p z:Nat × Nat):Prop:=p.1<z.1∨(p.1=z.1∧p.2<z.2)
theorem qiZ (r:Nat):∀ (d s:Nat) (p:Nat × Nat),p∈rowL r d s→p.1=r∧s≤p.2:=by
 intro d
 induction d with
 | zero=>intro s p h;simp [rowL] at h
 | succ d ih =>
  intro s p h
  rw [rowL,List.mem_cons] at h
  rcases h with rfl|h
  ·
   exact ⟨rfl,Nat.le_refl _⟩
  ·
   have:=ih (s+1) p h;omega
theorem qsl (S:Nat):∀ (d r:Nat) (p:Nat × Nat),p∈allL S d r→r≤p.1:=by
 intro d
 induction d with
 | zero=>intro r p h;simp [allL] at h
 | succ d ih =>
  intro r p h
  rw [allL,List.mem_append] at h
  rcases h with h|h
  ·
   have:=qiZ r S 0 p h;omega
  ·
   have:=ih (r+1) p h;omega
theorem qul (r:Nat):∀ (d s:Nat),(rowL r d s).Pairwise lexP:=by
 intro d
 induction d with
 | zero=>intro s;exact List.Pairwise.nil
 | succ d ih =>
  intro s
  rw [rowL,List.pairwise_cons]
  refine ⟨fun p hp => ?_,ih (s+1)⟩
  have:=qiZ r d (s+1) p hp
  exact .inr ⟨this.1.symm,by simp only;omega⟩
theorem qsm (S:Nat):∀ (d r:Nat),(allL S d r).Pairwise lexP:=by
 intro d
 induction d with
 | zero=>intro r;exact List.Pairwise.nil
 | succ d ih =>
  intro r
  rw [allL,List.pairwise_append]
  refine ⟨qul r S 0,ih (r+1),fun p hp z hz => .inl ?_⟩
  have h1:=qiZ r S 0 p hp
  have h2:=qsl S d (r+1) z hz
  omega
theorem qrw (r:Nat):∀ (d s x:Nat),s≤x→x<s+d→(r,x)∈rowL r d s:=by
 intro d
 induction d with
 | zero=>intro s x h1 h2;omega
 | succ d ih =>
  intro s x h1 h2
  rw [rowL,List.mem_cons]
  by_cases h:x=s
  ·
   exact .inl (by rw [h])
  ·
   exact .inr (ih (s+1) x (by omega) (by omega))
theorem qjT (S:Nat):∀ (d r y x:Nat),r≤y→y<r+d→x<S→(y,x)∈allL S d r:=by
 intro d
 induction d with
 | zero=>intro r y x h1 h2 h3;omega
 | succ d ih =>
  intro r y x h1 h2 h3
  rw [allL,List.mem_append]
  by_cases h:y=r
  ·
   exact .inl (by rw [h];exact qrw r S 0 x (by omega) (by omega))
  ·
   exact .inr (ih (r+1) y x (by omega) (by omega) h3)
theorem qlG {races:List S39} {keep:List Int} {q:List (List (List Int))} (hf:Fish races keep q) (a:Int) :
  (finF ((allL q.length races.length 0).foldl (upd (brP races keep q a)) (0,0,-1))=(0,0,0,4) ∧ ∀ r s:Nat,r<races.length→s<q.length → ∀ j,j<yrs q→Fy races keep q a j (r,s)=false) ∨
  (∃ r s y:Nat,r<races.length∧s<q.length∧y<yrs q∧finF ((allL q.length races.length 0).foldl (upd (brP races keep q a)) (0,0,-1))=((r:Int),(s:Int),(y:Int),0)∧Fy races keep q a y (r,s)=true ∧
   ∀ r' s':Nat,r'<races.length→s'<q.length → ∀ j,j≤y→(j<y∨lexP (r',s') (r,s))→Fy races keep q a j (r',s')=false):=by
 have hI:=qkC (brP races keep q a) (allL q.length races.length 0) [] (0,0,-1) (.inl ⟨by decide,fun p hp=>by simp at hp⟩)
 rw [List.nil_append] at hI
 have hPW:=qsm q.length races.length 0
 rcases hI with ⟨h1,h2⟩|⟨pre,z,post,h1,h2,h3,h4,h5⟩
 ·
  refine .inl ⟨by unfold finF;rw [if_pos h1],fun r s hr hs j hj => ?_⟩
  rcases qhP hf a r s hr hs with ⟨_,g⟩|⟨y,_,g,_⟩
  ·
   exact g j hj
  ·
   have:=h2 (r,s) (qjT _ _ _ _ _ (by omega) (by omega) hs)
   omega
 ·
  have hz:z∈allL q.length races.length 0:=by rw [h1];simp
  have hzb:=qqc hf q.length races.length 0 z hz
  obtain ⟨r,s⟩:=z
  simp only at hzb
  rcases qhP hf a r s (by omega) hzb.2 with ⟨g,_⟩|⟨y,y1,y2,y3,y4⟩
  ·
   omega
  ·
   refine .inr ⟨r,s,y,by omega,hzb.2,y1,?_,y3,fun r' s' hr' hs' j hj hlex => ?_⟩
   ·
    rw [h2,y2];unfold finF;rw [if_neg (by simp only;omega)]
   ·
    have hm:(r',s')∈allL q.length races.length 0:=qjT _ _ _ _ _ (by omega) (by omega) hs'
    rcases qhP hf a r' s' hr' hs' with ⟨_,g⟩|⟨x,x1,x2,x3,x4⟩
    ·
     exact g j (by omega)
    ·
     refine x4 j ?_;rw [h1] at hm hPW;rw [List.mem_append,List.mem_cons] at hm
     rcases hm with hm|hm|hm
     ·
      rcases h4 _ hm with g|g<;>omega
     ·
      have e:(r',s')=(r,s):=hm
      injection e with e1 e2
      subst e1 e2
      rcases hlex with g|g|g
      ·
       omega
      ·
       simp only at g;omega
      ·
       simp only at g;omega
     ·
      rw [List.pairwise_append,List.pairwise_cons] at hPW;have hl:lexP (r,s) (r',s'):=hPW.2.1.1 _ hm
      rcases h5 _ hm with g|g
      ·
       omega
      ·
       rcases hlex with g'|g'
       ·
        omega
       ·
        unfold lexP at hl g';simp only at hl g'
        omega
end
section
theorem qjS (l0 l1 l2:List Int) (a3 a4:Int):∀ k,(∀ n b,Qq.j0 k n b l0 l1 l2 a3 a4=Qi.j0 k n b l0 l1 l2 a3 a4)∧(∀ n b i,Qq.l0 k n b i l0 l1 l2 a3 a4=Qi.l0 k n b i l0 l1 l2 a3 a4)∧(∀ n b i c,Qq.j2 k n b i c l0 l1 l2 a3 a4=Qi.j2 k n b i c l0 l1 l2 a3 a4)
 | 0=>⟨fun _ _=>rfl,fun _ _ _=>rfl,fun _ _ _ _=>rfl⟩
 | k+1=>by
  obtain ⟨h1,h2,h3⟩:=qjS l0 l1 l2 a3 a4 k
  refine ⟨fun n b => ?_,fun n b i => ?_,fun n b i c => ?_⟩
  ·
   simp only [Qq.j0,Qi.j0,h2]
  ·
   simp only [Qq.l0,Qi.l0,h3]
  ·
   simp only [Qq.j2,Qi.j2,h2,qbF,GJ]
theorem qqb {l0 l1 l2:List Int} {a3 a4:Int} (h:isR l0 l1 l2 a3 a4=true):Ev (fun k=>Qq.f k l0 l1 l2 a3 a4) true:=by
 unfold isR at h
 simp only [Bool.and_eq_true,decide_eq_true_eq] at h
 obtain ⟨⟨⟨⟨⟨h1,h2⟩,h3⟩,h4⟩,h5⟩,h6⟩:=h
 have g1:=GT.1 h1
 have hw:wrap64 ((l0.length:Int)-1)=(l0.length:Int)-1:=by unfold wrap64;omega
 have H:=qea l0 l1 l2 a3 a4 l0.length 0 true (by omega) (fun _=>⟨h2,h3,by omega⟩)
 rw [h6] at H
 refine Ev.congr (fun k => ?_) (Ev.step (g:=fun k=>Qi.j0 k (l0.length:Int) true l0 l1 l2 a3 a4) (fun k=>by simp [Qi.j0]) H)
 simp only [Qq.f,qbF,Option.bind_some,h1,h2,h3,hw,h5,(qjS l0 l1 l2 a3 a4 k).1,if_true]
section
variable {races:List S39} {keep:List Int} {q:List (List (List Int))} (hf:Fish races keep q)
include hf
theorem qoH (s:Nat) (hs:s<q.length) (h:Ev (fun k=>Qd.l1 k true ((s+1:Nat):Int) races keep q) true):∀ (d j:Nat),j+d=races.length→Ev (fun k=>Qd.l2 k true (s:Int) (j:Int) races keep q) true:=by
 have h3:=hf.n3
 have h6:=hf.s6
 have e1:=(hf.se s hs).1
 have g1:(0:Int)≤(s:Int):=Int.natCast_nonneg s
 have g2:(s:Int)<(q.length:Int):=Int.ofNat_lt.2 hs
 have hws:=wr1 s q.length hs (by omega)
 intro d
 induction d with
 | zero =>
  intro j hj
  refine Ev.step (fun k => ?_) h
  simp only [Qd.l2,hws]
  rw [if_pos trivial,if_neg (by omega)]
 | succ d ih =>
  intro j hj
  have hjn:j<races.length:=by omega
  have hwj:=wr1 j races.length hjn (by omega)
  have e2:((QC (Qs q s) j).length:Int)=(yrs q:Int):=by rw [(hf.se s hs).2 j hjn]
  have g3:(j:Int)<(races.length:Int):=Int.ofNat_lt.2 hjn
  have g4:(0:Int)≤(j:Int):=Int.natCast_nonneg j
  have g5:(j:Int)<((Qs q s).length:Int):=by rw [e1];exact g3
  have hwi:wi (yrs q:Int) 1 10=true:=GT.2 ⟨by have:=hf.y1;omega,by have:=hf.y10;omega⟩
  have g6:0<(q.length:Int):=by omega
  have g7:0<((Qs q 0).length:Int):=by
   have:=(hf.se 0 (by omega)).1
   rw [show Qs q 0=Qs q ((0:Nat):Int) from rfl,this]
   omega
  refine Ev.step (fun k => ?_) (ih (j+1) (by omega))
  simp only [Qd.l2,hwj,e2,qbF,Option.bind_some,hwi]
  rw [if_pos trivial,if_pos g3,if_pos g1,if_pos g2,if_pos g4,if_pos g5,if_pos trivial,if_pos g6,if_pos g7]
  have e8:((yrs q:Int)==((QC (Qs q 0) 0).length:Int))=true:=by
   rw [show (QC (Qs q 0) 0).length=yrs q from rfl]
   simp
  rw [e8]
theorem qoG:∀ (d i:Nat),i+d=q.length→Ev (fun k=>Qd.l1 k true (i:Int) races keep q) true:=by
 have h6:=hf.s6
 intro d
 induction d with
 | zero =>
  intro i hi
  refine Ev.step (f:=fun k=>Qd.j4 k true (i:Int) false races keep q) (fun k => ?_) (Ev.step (f:=fun _=>some true) (fun k => ?_) (Ev.now _))
  ·
   simp only [Qd.l1]
   rw [decide_eq_false (by omega:¬ (i:Int)<(q.length:Int))]
   rfl
  ·
   simp [Qd.j4]
 | succ d ih =>
  intro i hi
  have hlt:i<q.length:=by omega
  have e1:=(hf.se i hlt).1
  refine Ev.step (f:=fun k=>Qd.j4 k true (i:Int) true races keep q) (fun k => ?_) (Ev.step (fun k => ?_) (qoH hf i hlt (ih (i+1) (by omega)) races.length 0 (by omega)))
  ·
   simp only [Qd.l1]
   rw [decide_eq_true (by omega:(i:Int)<(q.length:Int))]
   rfl
  ·
   simp only [Qd.j4]
   rw [if_pos trivial,if_pos (by omega),if_pos (by omega),e1]
   simp
theorem qoF:∀ (d i:Nat),i+d=races.length→Ev (fun k=>Qd.l0 k true (i:Int) races keep q) true:=by
 have h3:=hf.n3
 have hk:=hf.hk
 intro d
 induction d with
 | zero =>
  intro i hi
  refine Ev.step (f:=fun k=>Qd.j2 k true (i:Int) false races keep q) (fun k => ?_) (Ev.step (fun k => ?_) (qoG hf q.length 0 (by omega)))
  ·
   simp only [Qd.l0]
   rw [decide_eq_false (by omega:¬ (i:Int)<(races.length:Int))]
   rfl
  ·
   simp [Qd.j2]
 | succ d ih =>
  intro i hi
  have hlt:i<races.length:=by omega
  have hw:=wr1 i races.length hlt (by omega)
  have hr:=hf.ra i hlt
  refine Ev.step (f:=fun k=>Qd.j2 k true (i:Int) true races keep q) (fun k => ?_) (Ev.step (f:=fun k=>(Qq.f k ((Qe races i).f0) ((Qe races i).f1) ((Qe races i).f2) ((Qe races i).f3) ((Qe races i).f4)).bind fun qk9=>(if qk9=true then (Qd.l0 k true ((i+1:Nat):Int) races keep q) else (Qd.l0 k false ((i+1:Nat):Int) races keep q))) (fun k => ?_) (Ev.bind (qqb hr.1) ?_))
  ·
   simp only [Qd.l0]
   rw [decide_eq_true (by omega:(i:Int)<(races.length:Int))]
   rfl
  ·
   have g1:(0:Int)≤(i:Int):=by omega
   have g2:(i:Int)<(races.length:Int):=by omega
   have g3:(i:Int)<(keep.length:Int):=by omega
   simp only [Qd.j2,qbF,Option.bind_some,hw,hr.2,if_pos g1,if_pos g2,if_pos g3,if_true]
  ·
   simp only [if_true]
   exact ih (i+1) (by omega)
end
theorem qho {races:List S39} {keep:List Int} {q:List (List (List Int))} (hq:LB q) (hA:okA races keep q=true):Ev (fun k=>Qd.f k races keep q) true:=by
 have hf:=qcW hA
 have c1:=WN races keep q hq
 rw [hA] at c1
 refine Ev.bind c1 ?_
 have h1:wi (races.length:Int) 1 3=true:=GT.2 ⟨by have:=hf.n1;omega,by have:=hf.n3;omega⟩
 have h2:(keep.length:Int)=(races.length:Int):=by rw [hf.hk]
 have h3:wi (q.length:Int) 1 6=true:=GT.2 ⟨by have:=hf.s1;omega,by have:=hf.s6;omega⟩
 have e:cres true=0:=rfl
 simp only [e,if_true,qbF,Option.bind_some,h1,h2,h3]
 exact Ev.step (fun k=>by simp [Qd.j0]) (qoF hf races.length 0 (by omega))
theorem qld:Ev (fun _:Nat=>(Z2.f).bind fun t=>(some t)) true:=by
 refine ⟨0,fun k _ => ?_⟩
 simp [Z2.f]
def oth (races:List S39) (keep:List Int) (q:List (List (List Int))) (a:Int) (r s:Nat):List Int:=(List.range' 0 (yrs q)).map (spw (Qe races r) (tkR keep a r) (UP q (r,s)))
theorem qd2 (races:List S39) (keep:List Int) (q:List (List (List Int))) (a:Int) (r s:Nat):(oth races keep q a r s).length=yrs q:=by unfold oth;simp
theorem qrg (races:List S39) (keep:List Int) (q:List (List (List Int))) (a:Int) (r s i:Nat) (h:i<yrs q):rd (oth races keep q a r s) (i:Int)=spw (Qe races r) (tkR keep a r) (UP q (r,s)) i:=by
 rw [rdI _ i (by rw [qd2];exact h)]
 unfold oth
 simp
theorem qoo {races:List S39} {keep:List Int} {q:List (List (List Int))} (hq:LB q) (h:okA races keep q=false) (a:Int):Ev (fun k=>Yf.f k races keep q a) (0,0,0,93):=by
 have c1:=WN races keep q hq
 rw [h] at c1
 exact Ev.bind c1 (Ev.now _)
theorem qlo {races:List S39} {keep:List Int} {q:List (List (List Int))} (hq:LB q) (h:okA races keep q=true) (a:Int) (h0:0≤a) (h1:a≤10000):Ev (fun k=>Yf.f k races keep q a) (finF ((allL q.length races.length 0).foldl (upd (brP races keep q a)) (0,0,-1))):=by
 have c1:=WN races keep q hq
 rw [h] at c1
 have hf:=qcW h
 have hw:wi a 0 10000=true:=GT.2 ⟨h0,h1⟩
 refine Ev.bind c1 ?_
 have e:cres true=0:=rfl
 simp only [e,if_true,GJ,hw,Option.bind_some]
 exact qoy hf a races.length 0 (0,0,-1) (by omega)
theorem qn9 (a:Int) (n:Nat) (h0:1≤n) (h1:n≤1000):∃ m:Nat,m<n∧QX.f a (n:Int)=some (m:Int):=by
 have h3:=Int.emod_nonneg a (by omega:(n:Int)≠0)
 have h4:=Int.emod_lt_of_pos a (by omega:(0:Int)<n)
 refine ⟨(a % n).toNat,by omega,?_⟩
 rw [qlV a n (by omega) (by omega)]
 congr 1
 omega
end
section
theorem qyu (races:List S39) (keep:List Int) (q:List (List (List Int))) (a:Int) (race season:Nat) (hr:race<races.length) (hy:yrs q≤10) (x7 x8 x9:Int)
  (H:∀ i:Nat,i<yrs q→(i:Int)≤x9→((i:Int)<x9∨(race:Int)<x7∨((race:Int)=x7∧(season:Int)<x8))→Fy races keep q a i (race,season)=false) :
  ∀ (d i:Nat),i+d=yrs q→Ev (fun k=>Qc.l0 k x7 x8 x9 (race:Int) (season:Int) (oth races keep q a race season) (yrs q:Int) (i:Int) races keep q) true:=by
 have hlen:=qd2 races keep q a race season
 have hat:=qrg races keep q a race season
 obtain ⟨L,hL⟩:∃ L,oth races keep q a race season=L:=⟨_,rfl⟩
 rw [hL] at hlen hat ⊢
 have hend:∀ i:Int,Ev (fun k=>Qc.j5 k x7 x8 x9 (race:Int) (season:Int) L (yrs q:Int) i false races keep q) true:=fun i=>by
  refine Ev.step (fun k => ?_) qld
  simp [Qc.j5]
 have g3:(0:Int)≤(race:Int):=Int.natCast_nonneg race
 have g4:(race:Int)<(races.length:Int):=Int.ofNat_lt.2 hr
 have hF:∀ i:Nat,i<yrs q→Fy races keep q a i (race,season)=false → ¬ rd L (i:Int)<(Qe races race).f3:=fun i hi h=>by
  rw [hat i hi]
  exact of_decide_eq_false h
 obtain ⟨Y,hY⟩:∃ Y,yrs q=Y:=⟨_,rfl⟩
 rw [hY] at H hlen hat hend hF hy ⊢
 intro d
 induction d with
 | zero =>
  intro i hi
  refine Ev.step (fun k => ?_) (hend i)
  simp only [Qc.l0]
  rw [if_neg (by omega)]
 | succ d ih =>
  intro i hi
  have hlt:i<Y:=by omega
  have g1:(0:Int)≤(i:Int):=Int.natCast_nonneg i
  have g2:(i:Int)<(L.length:Int):=by rw [hlen];exact Int.ofNat_lt.2 hlt
  have g0:(i:Int)<(Y:Int):=Int.ofNat_lt.2 hlt
  have hw:=wr1 i Y hlt (by omega)
  have h1:=ih (i+1) (by omega)
  by_cases c:(i:Int)≤x9
  ·
   refine Ev.step (f:=fun k=>Qc.j5 k x7 x8 x9 (race:Int) (season:Int) L (Y:Int) (i:Int) true races keep q) (fun k => ?_) (Ev.step (fun k => ?_) h1)
   ·
    simp only [Qc.l0];rw [if_pos g0,decide_eq_true c]
   ·
    simp only [Qc.j5,hw,if_pos g1,if_pos g2,if_pos g3,if_pos g4,if_true]
    by_cases c1:(i:Int)<x9
    ·
     rw [if_pos c1,if_neg (hF i hlt (H i hlt c (.inl c1)))]
    ·
     rw [if_neg c1]
     by_cases c2:(race:Int)<x7
     ·
      rw [if_pos c2,if_neg (hF i hlt (H i hlt c (.inr (.inl c2))))]
     ·
      rw [if_neg c2]
      by_cases c3:(race:Int)=x7
      ·
       rw [if_pos c3]
       by_cases c4:(season:Int)<x8
       ·
        rw [if_pos c4,if_neg (hF i hlt (H i hlt c (.inr (.inr ⟨c3,c4⟩))))]
       ·
        rw [if_neg c4]
      ·
       rw [if_neg c3]
  ·
   refine Ev.step (fun k => ?_) (hend i)
   simp only [Qc.l0]
   rw [if_pos g0,decide_eq_false c]
theorem StockBreaks (races:List S39) (keep:List Int) (q:List (List (List Int))) (a n0 n1:Int) (h1:∀ x∈races,W39 x) (h2:WL keep) (h3:∀ x∈q,∀ y∈x,WL y) (hkl:keep.length≤9223372036854775807) (hq:LB q) (ha:Wf a) (hn0:Wf n0) (hn1:Wf n1) :
  ∃ k,Qc.f k races keep q a n0 n1=some true:=by
 have hm:=qlV a 10001 (by decide) (by decide)
 have b0:=Int.emod_nonneg a (by decide:(10001:Int)≠0)
 have b1:=Int.emod_lt_of_pos a (by decide:(0:Int)<10001)
 obtain ⟨A,hAe⟩:∃ A,a % 10001=A:=⟨_,rfl⟩
 rw [hAe] at hm b0 b1
 refine Ev.rounds ?_
 simp only [Qc.f,hm,Option.bind_some]
 cases hA:okA races keep q with
 | false =>
  refine Ev.bind (qoo hq hA A) ?_
  refine Ev.step (fun k => ?_) qld
  simp [Qc.j0]
 | true =>
  have hf:=qcW hA
  have hF:=qlo hq hA A b0 (by omega)
  obtain ⟨race,r1,r2⟩:=qn9 n0 races.length hf.n1 (by have:=hf.n3;omega)
  obtain ⟨season,s1,s2⟩:=qn9 n1 q.length hf.s1 (by have:=hf.s6;omega)
  have hPl:∀ r s:Nat,r<races.length→s<q.length→Ev (fun k=>Qt.f k races keep q (r:Int) (s:Int) A []) (oth races keep q A r s,0):=fun r s hr hs=>qoB hA A b0 (by omega) r s hr hs
  have g6:0<(q.length:Int):=by have:=hf.s1;omega
  have g7:0<((Qs q 0).length:Int):=by
   have:=(hf.se 0 (by have:=hf.s1;omega)).1
   rw [show Qs q 0=Qs q ((0:Nat):Int) from rfl,this]
   have:=hf.n1
   omega
  have e8:(((oth races keep q A race season).length:Int) != ((QC (Qs q 0) 0).length:Int))=false:=by
   rw [qd2,show (QC (Qs q 0) 0).length=yrs q from rfl]
   simp
  have hj0:∀ (x7 x8 x9 x10:Int),Ev (fun k=>Qc.j1 k A x7 x8 x9 x10 (race:Int) (season:Int) (oth races keep q A race season) (yrs q:Int) false races keep q) true→Ev (fun k=>Qc.j0 k A x7 x8 x9 x10 false races keep q n0 n1) true:=fun x7 x8 x9 x10 h=>by
   refine Ev.step (f:=fun k=>(Qt.f k races keep q (race:Int) (season:Int) A []).bind fun GG=>(if GG.2=0 then (Qc.j1 k A x7 x8 x9 x10 (race:Int) (season:Int) GG.1 ((QC (Qs q 0) 0).length:Int) ((GG.1.length:Int) != ((QC (Qs q 0) 0).length:Int)) races keep q) else (Qc.j1 k A x7 x8 x9 x10 (race:Int) (season:Int) GG.1 ((QC (Qs q 0) 0).length:Int) true races keep q))) (fun k => ?_) (Ev.bind (hPl race season r1 s1) ?_)
   ·
    simp only [Qc.j0,r2,s2,Option.bind_some,if_pos g6,if_pos g7]
    rfl
   ·
    simp only [if_true,e8]
    exact h
  have hj3:∀ (x7 x8 x9:Int),(∀ i:Nat,i<yrs q→(i:Int)≤x9→((i:Int)<x9∨(race:Int)<x7∨((race:Int)=x7∧(season:Int)<x8))→Fy races keep q A i (race,season)=false)→Ev (fun k=>Qc.j3 k x7 x8 x9 (race:Int) (season:Int) (oth races keep q A race season) (yrs q:Int) races keep q) true:=fun x7 x8 x9 h=>by
   refine Ev.step (fun k => ?_) (qyu races keep q A race season r1 hf.y10 x7 x8 x9 h (yrs q) 0 (Nat.zero_add _))
   simp [Qc.j3]
  rcases qlG hf A with ⟨v,hv⟩|⟨r,s,y,hr,hs,hy,v,hb,hv⟩
  ·
   rw [v] at hF
   refine Ev.bind hF ?_
   simp only [if_true]
   refine Ev.congr (f:=fun k=>(Qd.f k races keep q).bind fun qeE=>(Qc.j0 k A 0 0 0 4 (!qeE) races keep q n0 n1)) (fun k=>rfl) (Ev.bind (qho hq hA) (hj0 0 0 0 4 ?_))
   refine Ev.step (fun k => ?_) (hj3 0 0 (yrs q:Int) (fun i hi _ _=>hv race season r1 s1 i hi))
   simp [Qc.j1]
  ·
   rw [v] at hF
   refine Ev.bind hF ?_
   simp only [if_true]
   refine Ev.bind (qho hq hA) (hj0 r s y 0 ?_)
   have w1:wi (r:Int) 0 ((races.length:Int)-1)=true:=GT.2 ⟨by omega,by omega⟩
   have w2:wi (s:Int) 0 ((q.length:Int)-1)=true:=GT.2 ⟨by omega,by omega⟩
   have w3:wi (y:Int) 0 ((yrs q:Int)-1)=true:=GT.2 ⟨by omega,by omega⟩
   have u1:wrap64 ((races.length:Int)-1)=(races.length:Int)-1:=by have:=hf.n3;unfold wrap64;omega
   have u2:wrap64 ((q.length:Int)-1)=(q.length:Int)-1:=by have:=hf.s6;unfold wrap64;omega
   have u3:wrap64 ((yrs q:Int)-1)=(yrs q:Int)-1:=by have:=hf.y10;unfold wrap64;omega
   refine Ev.step (f:=fun k=>Qc.j2 k A (r:Int) (s:Int) (y:Int) (race:Int) (season:Int) (oth races keep q A race season) (yrs q:Int) false races keep q) (fun k => ?_) ?_
   ·
    simp only [Qc.j1,qbF,Option.bind_some,u1,u2,u3,w1,w2,w3]
    rfl
   ·
    have hown:rd (oth races keep q A r s) (y:Int)=spw (Qe races r) (tkR keep A r) (UP q (r,s)) y:=qrg races keep q A r s y hy;have hlt:spw (Qe races r) (tkR keep A r) (UP q (r,s)) y<(Qe races r).f3:=of_decide_eq_true hb;have k1:(0:Int)≤(y:Int):=Int.natCast_nonneg y
    have k2:(y:Int)<((oth races keep q A r s).length:Int):=by rw [qd2];exact Int.ofNat_lt.2 hy
    have k3:(0:Int)≤(r:Int):=Int.natCast_nonneg r;have k4:(r:Int)<(races.length:Int):=Int.ofNat_lt.2 hr
    have k5:((oth races keep q A r s).length:Int)=(yrs q:Int):=by rw [qd2]
    have k6:¬ rd (oth races keep q A r s) (y:Int)≥(Qe races r).f3:=by rw [hown];exact Int.not_le.2 hlt
    refine Ev.step (f:=fun k=>(Qt.f k races keep q (r:Int) (s:Int) A []).bind fun OP=>(if OP.2=0 then (if (OP.1.length:Int)=(yrs q:Int) then (if 0≤(y:Int) then (if (y:Int)<(OP.1.length:Int) then (if 0≤(r:Int) then (if (r:Int)<(races.length:Int) then (if (rd OP.1 y)≥((Qe races r).f3) then (some false) else (Qc.j3 k (r:Int) (s:Int) (y:Int) (race:Int) (season:Int) (oth races keep q A race season) (yrs q:Int) races keep q)) else (none)) else (none)) else (none)) else (none)) else (some false)) else (some false))) (fun k => ?_) (Ev.bind (hPl r s hr hs) ?_)
    ·
     simp [Qc.j2]
    ·
     simp only [if_true,if_pos k1,if_pos k2,if_pos k3,if_pos k4,if_pos k5,if_neg k6];refine hj3 r s y (fun i hi hiy hcase=>hv race season r1 s1 i (by omega) ?_);unfold lexP
     simp only
     omega
end
end Go.Proofs.Ytmhomdohhihlcaa.P
