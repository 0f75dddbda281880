/- What the statement StockQuotas leans on, part 6 of 6: contracts of the program's functions; conditions: none. -/
import Derived.Deep.RegionHeld3
import Derived.Deep.Slices
import Derived.ChangeSame
import Derived.OpenShut
import Derived.SizedLaws
import Derived.Lib.SmallJoins
import Derived.Test.YtmhomdohhihlcaaStockQuotasx0
import Derived.Test.YtmhomdohhihlcaaStockQuotasx1
import Derived.Test.YtmhomdohhihlcaaStockQuotasx2
import Derived.Test.YtmhomdohhihlcaaStockQuotasx3
import Derived.Test.YtmhomdohhihlcaaStockQuotasx4
set_option linter.unusedVariables false
set_option linter.unusedSimpArgs false
set_option linter.constructorNameAsVariable false
set_option linter.unusedSectionVars false
namespace Go.Proofs.Ytmhomdohhihlcaa.P
open Go.RowKit Go.Proofs.YtmhomdohhihlcaaW.PrintWords Go.Proofs.YtmhomdohhihlcaaW.PrintLast Go.Proofs.YtmhomdohhihlcaaW.PrintMore
section
attribute [local go_sem high] qoR
def ZS.f:Option Bool:=some true
structure qoy (p:Prop):Prop where
 out:p
theorem V_C {α:Type} {d:Kd α} {e:Nat} {w:World} {b:Nat} {ok:Nat→Prop} {v:Value} {xs:List α} (h:Kd.V d e w b ok v xs):∃ A c,v = .slice A xs.length c∧xs.length≤c∧Kd.C d w A xs.length xs:=by
 obtain ⟨A,c,hv,hl,hf⟩:=h
 exact ⟨A,c,hv,hl,Kd.F_now hf⟩
theorem qh3 {W:World} {o:Obj} {k:Nat} (h:W.heap.size=k):(W.alloc o).heap[k]? = some o:=by subst h;exact World.alloc_heap_new W o
theorem qlb {W:World} {g:Nat} {a b:Int} (h:W.heap[g]? = some (.cells #[.int .i64 a,.int .i64 b] 3 (0,0))):Kd.C (Kd.int .i64) W (some ⟨g,0,none⟩) 2 [a,b]:=by
 refine ⟨rfl,by decide,fun _=>⟨_,rfl,fun j p hj=>⟨[.int .i64 p],rfl,rfl,fun i u hu => ?_⟩⟩⟩
 have hj2:j<2:=(List.getElem?_eq_some_iff.1 hj).1
 have hi:i=0:=by have:=(List.getElem?_eq_some_iff.1 hu).1;simpa using this
 subst hi
 have hu2:Value.int .i64 p=u:=by simpa using hu
 rw [Kx,Q6 h]
 subst hu2
 match j,hj2,hj with
 | 0,_,hj=>cases hj;rfl
 | 1,_,hj=>cases hj;rfl
theorem qp3 {W:World} {g:Nat} {a b a' b':Int} (h:W.heap[g]? = some (.cells #[.int .i64 a,.int .i64 b,.int .i64 a',.int .i64 b'] 25 (0,0))):Kd.C k25 W (some ⟨g,0,none⟩) 2 [⟨a,b⟩,⟨a',b'⟩]:=by
 refine ⟨rfl,by decide,fun _=>⟨_,rfl,fun j p hj=>⟨[.int .i64 p.f0,.int .i64 p.f1],rfl,qvj _ _,fun i u hu => ?_⟩⟩⟩
 have hj2:j<2:=(List.getElem?_eq_some_iff.1 hj).1
 have hi:i<2:=(List.getElem?_eq_some_iff.1 hu).1
 rw [Kx,Q6 h]
 match j,hj2,hj,i,hi,hu with
 | 0,_,hj,0,_,hu=>cases hj;cases hu;rfl
 | 0,_,hj,1,_,hu=>cases hj;cases hu;rfl
 | 1,_,hj,0,_,hu=>cases hj;cases hu;rfl
 | 1,_,hj,1,_,hu=>cases hj;cases hu;rfl
set_option maxHeartbeats 8000000 in
set_option maxRecDepth 100000 in
theorem ZS.calls (r:Bool) (w:World) (h:ZS.f=some r) :
  Calls Try.prog 21 #[] w fun e w'=>e = .returned (.bool r)∧Below w.heap.size w w':=by
 obtain rfl:true=r:=Option.some.inj h
 clear h
 have qdL:=Try.underlying25
 go_enter Try.func21,Try.ntmps21
 have B0:=Below.refl w.heap.size w
 go_wp2_with (first
  | (go_at_call 59;refine (K2.calls _ _ qny).mono ?_;rintro e w1 ⟨v,rfl,hv,hb1⟩;obtain ⟨A1,c1,rfl,hc1,hC1⟩:=Kd.R_reads hv;have B1:=B0.trans (hb1.mono B0.size);clear hv hb1)
  | (go_at_call 19;refine (Y5.calls 40 A1 c1 qeU 4 6 10 30 0 _ hC1 hc1 qqG).mono ?_;rintro e w2 ⟨rfl,hb2⟩;have B2:=B1.trans (hb2.mono B1.size);clear hC1 hc1 hb2)
  | (go_at_call 61;refine (Kp.calls _ _ qo1).mono ?_;rintro e w3 ⟨v,rfl,hv,hb3⟩;obtain ⟨A3,c3,rfl,hc3,hC3⟩:=Kd.N_reads hv;have B3:=(Q2 B2 _).trans (hb3.mono (Q2 B2 _).size);have K3:=Qg (World.alloc_heap_new w2 _) hb3;clear hv)
  | (go_at_call 60;refine (KD.calls _ _ qqI).mono ?_;rintro e w4 ⟨v,rfl,hv,hb4⟩;obtain ⟨A4,c4,rfl,hc4,hC4⟩:=Kd.R_reads hv;have B4:=B3.trans (hb4.mono B3.size);have qxB:=Kd.C_below hC3 hb4;have K4:=Qg K3 hb4;clear hv)
  | (go_at_call 22;refine (QF.calls 20 A3 c3 qgg A4 c4 qjX [⟨38,75⟩,⟨25,62⟩] 0 _ qxB hc3 hC4 hc4 qnw).mono ?_;rintro e w5 ⟨v,rfl,hv,hb5⟩;obtain ⟨A5,c5,rfl,hc5,hC5⟩:=V_C hv;have B5:=B4.trans (hb5.mono B4.size);have K5:=Qg K4 hb5;clear K3 K4 hC3 qxB hC4 hc3 hc4 hv hb3 hb4 hb5)
  | (go_at_call 57;refine (Jm.calls _ _ _ _ _ _ qnx).mono ?_;rintro e w6 ⟨u0,u1,u2,rfl,h0,h1,h2,hb6⟩;obtain ⟨A60,c60,rfl,qxN,qxG⟩:=Kd.R_reads h0;obtain ⟨A61,c61,rfl,qxO,qxH⟩:=Kd.R_reads h1;obtain ⟨A62,c62,rfl,qxP,qxI⟩:=Kd.R_reads h2;have B6:=B5.trans (hb6.mono B5.size);have K6:=Qg K5 hb6;have qxC:=Kd.C_below hC5 hb6;clear K5 h0 h1 h2 hC5 hb6)
  | (go_at_call 25;refine (QT.calls 20 A60 c60 [100,50,20] A61 c61 [800,700,500] A62 c62 [0,1,2] 60 1 _ 2 [30,30] _ 2 [90,80] [40,78] 0 _ ?q1 qxN ?q2 qxO ?q3 qxP ?q4 (Nat.le_refl 2) ?q5 (Nat.le_refl 2) qqH).mono ?_;(case q1=>exact Kd.C_alloc (Kd.C_alloc qxG _) _);(case q2=>exact Kd.C_alloc (Kd.C_alloc qxH _) _);(case q3=>exact Kd.C_alloc (Kd.C_alloc qxI _) _);(case q4=>exact qlb (Q4 (World.alloc_heap_new w6 _) _));(case q5=>refine qlb ?_;(have:=World.alloc_heap_new (w6.alloc (.cells #[.int .i64 30,.int .i64 30] 3)) (.cells #[.int .i64 90,.int .i64 80] 3));rwa [World.size_alloc] at this);rintro e w7 ⟨v,rfl,hv,hb7⟩;obtain ⟨A7,c7,rfl,hc7,hC7⟩:=V_C hv;have B7:=(Q2 (Q2 B6 _) _).trans (hb7.mono (Q2 (Q2 B6 _) _).size);have K7:=Qg (Q4 (Q4 K6 _) _) hb7;have qxD:=Kd.C_below (Kd.C_alloc (Kd.C_alloc qxC _) _) hb7;clear qxG qxH qxI qxN qxO qxP qxC K6 hv hb7)
  | (go_at_call 58;refine (Ga.calls _ _ _ _ qeV).mono ?_;rintro e w8 ⟨u0,u1,u2,rfl,h0,h1,h2,hb8⟩;obtain ⟨A80,c80,rfl,qo6,qo3⟩:=Kd.N_reads h0;obtain ⟨A81,c81,rfl,qo7,qo4⟩:=Kd.R_reads h1;obtain ⟨A82,c82,rfl,qo8,qo5⟩:=Kd.N_reads h2;have B8:=B7.trans (hb8.mono B7.size);have K8:=Qg K7 hb8;have qxE:=Kd.C_below qxD hb8;have qxK:=Kd.C_below hC7 hb8;clear h0 h1 h2 qxD hC7 K7 hb8)
  | (go_at_call 28;refine (YI.calls 40 A80 c80 [qeS,qeT] A81 c81 [40,80] A82 c82 Xs 7 0 _ qo3 qo6 qo4 qo7 qo5 qo8 qoX).mono ?_;rintro e w9 ⟨rfl,hb9⟩;have B9:=B8.trans (hb9.mono B8.size);have K9:=Qg K8 hb9;have qxF:=Kd.C_below qxE hb9;have qxL:=Kd.C_below qxK hb9;clear qo3 qo4 qo5 qo6 qo7 qo8 qxE qxK K8 hb9))
 have hSb:∀ z:World,Below w9.heap.size w9 z→z.cell? ⟨w2.heap.size,0,none⟩=some (.int .i64 10)∧z.cell? ⟨w2.heap.size,1,none⟩=some (.int .i64 30)∧Below w9.heap.size w9 z:=fun z hz =>
  ⟨(Q6 (Qg K9 hz) 0).trans rfl,(Q6 (Qg K9 hz) 1).trans rfl,hz⟩
 have HSb:=Q1.mk hSb
 have H59:=Q1.mk qxF
 have H79:=Q1.mk qxL
 have HB9:=Q1.mk B9
 clear hSb qxF qxL B0 B1 B2 B3 B4 B5 B6 B7 B8 B9 K9
 go_region_held3 (fun z=>z.cell? ⟨w2.heap.size,0,none⟩=some (.int .i64 10)∧z.cell? ⟨w2.heap.size,1,none⟩=some (.int .i64 30)∧Below w9.heap.size w9 z)
  (first|exact HSb.out _ (Yv (Below.refl _ _))|(refine HSb.out _ (Q2 ?hk _);(case hk=>exact (And.right (And.right ‹_∧_∧Below w9.heap.size w9 _›))))|(refine HSb.out _ (Q0 ?hk _);(case hk=>exact (And.right (And.right ‹_∧_∧Below w9.heap.size w9 _›))))|(refine HSb.out _ (Below.trans ?hk1 (hbz.mono ?hk2));(case hk1=>exact (And.right (And.right ‹_∧_∧Below w9.heap.size w9 _›)));(case hk2=>exact (And.right (And.right ‹_∧_∧Below w9.heap.size w9 _›)).size)))
  (first
   | (go_at_call 43;refine (QQ.calls _ _ _ _ _ rfl).mono ?_;rintro e wz ⟨rfl,hbz⟩)
   | (go_at_call 24;refine (Z6.calls 10 A5 c5 [⟨38,75⟩,⟨25,62⟩] _ 2 [⟨38,75⟩,⟨25,62⟩] true _ ?q1 hc5 ?q2 (Nat.le_refl 2) qgh).mono ?_;(case q1=>refine Kd.C_below H59.out ?hk;(case hk=>exact (And.right (And.right ‹_∧_∧Below w9.heap.size w9 _›))));(case q2=>refine qp3 ?_;exact World.alloc_heap_new _ _);rintro e wz ⟨rfl,⟨nd,rfl⟩⟩)
   | (go_at_call 27;refine (Zi.calls 10 A7 c7 [40,78] _ 2 [40,78] true _ ?q1 hc7 ?q2 (Nat.le_refl 2) qoY).mono ?_;(case q1=>refine Kd.C_below H79.out ?hk;(case hk=>exact (And.right (And.right ‹_∧_∧Below w9.heap.size w9 _›))));(case q2=>refine qlb (qh3 ?hs);(case hs=>first|rfl|exact World.size_alloc _ _));rintro e wz ⟨rfl,⟨nd,rfl⟩⟩))
 go_wp2_with (go_at_call 58;refine qoy.out ?_)
 refine qoy.mk ?_
 refine (Ga.calls _ _ _ _ qeV).mono ?_
 rintro e wa ⟨u0,u1,u2,rfl,h0,h1,h2,hba⟩
 have Ba:Below w.heap.size w wa:=by
  refine Below.trans ?_ (hba.mono ?_)
  ·
   exact HB9.out.trans ((And.right (And.right ‹_∧_∧Below w9.heap.size w9 _›)).mono HB9.out.size)
  ·
   exact (HB9.out.trans ((And.right (And.right ‹_∧_∧Below w9.heap.size w9 _›)).mono HB9.out.size)).size
 obtain ⟨A80,c80,rfl,qo6,qo3⟩:=Kd.N_reads h0
 obtain ⟨A81,c81,rfl,qo7,qo4⟩:=Kd.R_reads h1
 obtain ⟨A82,c82,rfl,qo8,qo5⟩:=Kd.N_reads h2
 clear h0 h1 h2 hba
 go_wp2_with (first
  | (go_at_call 32;refine (Yc.calls 40 A80 c80 [qeS,qeT] A81 c81 [40,80] A82 c82 Xs 8 1 1 1 0 _ qo3 qo6 qo4 qo7 qo5 qo8 qoW).mono ?_;rintro e wb ⟨rfl,hbb⟩;have Bb:=Ba.trans (hbb.mono Ba.size);clear qo3 qo4 qo5 qo6 qo7 qo8 hbb)
  | (go_at_call 62;refine (KZ.calls _ _ quZ).mono ?_;rintro e wc ⟨v,rfl,hv,hbc⟩;obtain ⟨Ac,cc,rfl,hcc,hCc⟩:=Kd.R_reads hv;have Bc:=Bb.trans (hbc.mono Bb.size);clear hv hbc)
  | (go_at_call 63;refine (Ko.calls _ _ qo0).mono ?_;rintro e wd ⟨v,rfl,hv,hbd⟩;obtain ⟨Ad,cd,rfl,hcd,hCd⟩:=Kd.N_reads hv;have Bd:=Bc.trans (hbd.mono Bc.size);have hCc':=Kd.C_below hCc hbd;clear hv hbd hCc)
  | (go_at_call 40;refine (QI.calls Ac cc qoU Ad cd qgf 2 [0,2] 110 18 0 _ hCc' hcc hCd hcd qoV).mono ?_;rintro e we ⟨v,rfl,hv,hbe⟩;obtain ⟨Ae,ce,rfl,hce,hCe⟩:=V_C hv;have Be:=Bd.trans (hbe.mono Bd.size);clear hv hbe hCc' hCd hcc hcd)
  | (go_at_call 27;refine (Zi.calls 10 Ae ce [0,2] _ 2 [0,2] true _ ?q1 hce ?q2 (Nat.le_refl 2) qoZ).mono ?_;(case q1=>exact Kd.C_alloc hCe _);(case q2=>refine qlb (qh3 ?hs);(case hs=>rfl));rintro e wf ⟨rfl,⟨ndf,rfl⟩⟩))
 go_ret
 exact ⟨rfl,Q0 (Q2 Be _) _⟩
end
section
attribute [local go_sem] YC YE Z2 Z3 Yr Ys YD YF
def QA.j0:Nat→Int→Bool→List (S39)→List Int→List (List (List Int))→Option (Bool)
 | 0,_,_,_,_,_=>none
 | k+1,x1,x39,qm9,qna,qnb=>if x39=true then (some false) else ((Yc.f k qm9 qna qnb x1).bind fun WN=>((Zl.f k qm9 qna qnb x1).bind fun U2=>(if WN.1=U2.1 then (if WN.2.1=U2.2.1 then (if WN.2.2.1=U2.2.2.1 then (if WN.2.2.2=U2.2.2.2 then ((ZS.f).bind fun qdV=>(some qdV)) else (some false)) else (some false)) else (some false)) else (some false))))
def QA.f (k:Nat) (Qa:List (S39)) (Qe:List Int) (Qc:List (List (List Int))) (a1:Int):Option (Bool):=(YI.f k Qa Qe Qc).bind fun qh9=>((QX.f k Qa Qe Qc).bind fun qdE=>(if qh9.1=qdE.1 then (if qh9.2=qdE.2 then ((Qj.f k Qa Qe Qc).bind fun qdQ=>((Qb.f k Qa Qe Qc).bind fun qdq=>(QA.j0 k a1 (qdQ != qdq) Qa Qe Qc))) else (QA.j0 k a1 true Qa Qe Qc)) else (QA.j0 k a1 true Qa Qe Qc)))
def QA.T3:Bool × List (List Nat × List Nat):=(true,[([],[]),([],[]),([0,1],[0,1]),([2],[2]),([3],[3]),([3],[3]),([4,5,3],[3,4,5]),([3,6],[3,6]),([7,3],[7]),([8],[8]),([9,8,8],[8,9]),([8],[8]),([11,10,8],[8,11]),([10,12,8],[8,10,12]),([8,13],[8,13])])
def QA.B3:List Nat:=[0,0,3,7,15,15,63,127,255,511,1023,511,4095,8191,16383]
theorem QA.tab3:rtab .any (qaz Try.f6 3)=QA.T3:=by kernel_rfl
theorem QA.bits3:Kr QA.T3.2 QA.B3=true:=by kernel_rfl
set_option maxHeartbeats 8000000 in
set_option maxRecDepth 100000 in
theorem QA.calls (k:Nat) (Qy:Option Addr) (Qr:Nat) (Qa:List (S39)) (Qv:Option Addr) (Qs:Nat) (Qe:List Int) (Qz:Option Addr) (Qt:Nat) (Qc:List (List (List Int))) (a1:Int) (r:Bool) (w:World) (ZR:Kd.C k39 w Qy Qa.length Qa) (ZW:Qa.length≤Qr) (ZL:Kd.C (Kd.int .i64) w Qv Qe.length Qe) (ZO:Qe.length≤Qs) (ZM:Kd.C (Kd.slice 37 (Kd.slice 3 (Kd.int .i64))) w Qz Qc.length Qc) (ZP:Qc.length≤Qt) (h:QA.f k Qa Qe Qc a1=some r) :
  Calls Try.prog 6 #[.agg #[.slice Qy Qa.length Qr,.slice Qv Qe.length Qs,.slice Qz Qc.length Qt],.int .i64 a1] w fun e w'=>e = .returned (.bool r)∧Below w.heap.size w w':=by
 have qgO:=Try.underlying47
 have Z1:=Q1.mk ZR
 have Zh:=Q1.mk ZW
 clear ZR ZW
 have Z0:=Q1.mk ZL
 have Z9:=Q1.mk ZO
 clear ZL ZO
 have YV:=Q1.mk ZM
 have Zd:=Q1.mk ZP
 clear ZM ZP
 have HB:=Q1.mk (Below.refl w.heap.size w)
 have H:((YI.f k Qa Qe Qc).bind fun qh9=>((QX.f k Qa Qe Qc).bind fun qdE=>(if qh9.1=qdE.1 then (if qh9.2=qdE.2 then ((Qj.f k Qa Qe Qc).bind fun qdQ=>((Qb.f k Qa Qe Qc).bind fun qdq=>(QA.j0 k a1 (qdQ != qdq) Qa Qe Qc))) else (QA.j0 k a1 true Qa Qe Qc)) else (QA.j0 k a1 true Qa Qe Qc))))=some r:=h
 clear h
 replace H:=Option.bind_eq_some_iff.mp H
 obtain ⟨⟨qjB,qjC⟩,A30,H⟩:=H
 replace H:((QX.f k Qa Qe Qc).bind fun qdE=>(if qjB=qdE.1 then (if qjC=qdE.2 then ((Qj.f k Qa Qe Qc).bind fun qdQ=>((Qb.f k Qa Qe Qc).bind fun qdq=>(QA.j0 k a1 (qdQ != qdq) Qa Qe Qc))) else (QA.j0 k a1 true Qa Qe Qc)) else (QA.j0 k a1 true Qa Qe Qc)))=some r:=H
 have A3:=Q1.mk A30
 clear A30
 replace H:=Option.bind_eq_some_iff.mp H
 obtain ⟨⟨qkW,qkX⟩,A40,H⟩:=H
 replace H:(if qjB=qkW then (if qjC=qkX then ((Qj.f k Qa Qe Qc).bind fun qdQ=>((Qb.f k Qa Qe Qc).bind fun qdq=>(QA.j0 k a1 (qdQ != qdq) Qa Qe Qc))) else (QA.j0 k a1 true Qa Qe Qc)) else (QA.j0 k a1 true Qa Qe Qc))=some r:=H
 have A4:=Q1.mk A40
 clear A40
 have HC5:=Q1.mk H
 clear H
 go_enter Try.func6,Try.ntmps6
 go_upto_region 3 with (first|((with_reducible refine QR (N:=2) rfl ?_);refine Yf ?hg (N:=2) ?hd (cs:=#[.slice Qy Qa.length Qr,.slice Qv Qe.length Qs,.slice Qz Qc.length Qt]) (t:=47) ?hr ?_;(case hd=>rfl);(case hg=>rfl);(case hr=>first|(go_simp;done)|(go_simp;rfl));intro ZK hg w6 hbox hb;have n0_:=Q1.mk (Qi (by repeat (first|(with_reducible first|exact HB.out|apply Q2|apply Q0|apply Q3)|exact HB.out)) hb);have n1_:=Q1.mk (hbox);have n2_:=Q1.mk ((by rw [hg];exact (Qf (by repeat (first|(with_reducible first|exact HB.out|apply Q2|apply Q0|apply Q3)|exact HB.out))):w.heap.size≤ZK));have n3_:=n2_;clear HB;have HB:=n0_;have Yd:=n1_;have qHp:=n2_;have KA:=n3_;clear n0_ n1_ n2_ n3_ hb hbox hg;have qdf:w6.cell? ⟨ZK,0,none⟩=some (.slice Qy Qa.length Qr):=(Q6 Yd.out 0).trans rfl;have qdg:w6.cell? ⟨ZK,1,none⟩=some (.slice Qv Qe.length Qs):=(Q6 Yd.out 1).trans rfl;have qdh:w6.cell? ⟨ZK,2,none⟩=some (.slice Qz Qc.length Qt):=(Q6 Yd.out 2).trans rfl;have qdi:=Q8 Yd.out 0;have qdj:=Q8 Yd.out 1;have qdk:=Q8 Yd.out 2)|((with_reducible refine Qu (f:=28) rfl ?_);refine Yk (some 17) rfl rfl Try.func28 (by kernel_rfl) rfl #[.agg #[.slice Qy Qa.length Qr,.slice Qv Qe.length Qs,.slice Qz Qc.length Qt]] rfl (by (try simp only [List.map_toArray,List.map_cons,List.map_nil]);first|done|rfl|(simp only [List.length_drop,List.length_take];rfl)) ?_;(with_reducible refine (YI.calls k _ _ Qa _ _ Qe _ _ Qc qjB qjC _ ?side1 ?side2 ?side3 ?side4 ?side5 ?side6 A3.out).mono ?_);(case side1=>repeat (first|exact (Kd.C_below Z1.out HB.out)|(with_reducible refine Kd.C_alloc ?_ _)|(with_reducible refine Kd.C_drewN ?_ _)|(with_reducible refine Kd.C_drew ?_)));(case side2=>exact Zh.out);(case side3=>repeat (first|exact (Kd.C_below Z0.out HB.out)|(with_reducible refine Kd.C_alloc ?_ _)|(with_reducible refine Kd.C_drewN ?_ _)|(with_reducible refine Kd.C_drew ?_)));(case side4=>exact Z9.out);(case side5=>repeat (first|exact (Kd.C_below YV.out HB.out)|(with_reducible refine Kd.C_alloc ?_ _)|(with_reducible refine Kd.C_drewN ?_ _)|(with_reducible refine Kd.C_drew ?_)));(case side6=>exact Zd.out);rintro e w8 ⟨rfl,hb⟩;refine ⟨_,rfl,?_⟩;have n0_:=Q1.mk (Qg (g:=ZK) (by (with_reducible repeat (first|refine Q5 ?_ _|refine Q9 ?_|refine Q4 ?_ _));exact Yd.out) hb);have n1_:=Q1.mk (Qi (by repeat (first|(with_reducible first|exact HB.out|apply Q2|apply Q0|apply Q3|refine Q7 ?_ KA.out)|exact HB.out)) hb);clear Yd HB;have Yd:=n0_;have HB:=n1_;clear n0_ n1_;(try clear hb);(try clear hb2);(try clear hk);(try clear hi);have GH:w8.cell? ⟨ZK,0,none⟩=some (.slice Qy Qa.length Qr):=(Q6 Yd.out 0).trans rfl;have GI:w8.cell? ⟨ZK,1,none⟩=some (.slice Qv Qe.length Qs):=(Q6 Yd.out 1).trans rfl;have GJ:w8.cell? ⟨ZK,2,none⟩=some (.slice Qz Qc.length Qt):=(Q6 Yd.out 2).trans rfl;have GK:=Q8 Yd.out 0;have GL:=Q8 Yd.out 1;have GM:=Q8 Yd.out 2)|((with_reducible refine Qu (f:=29) rfl ?_);refine Yk (some 22) rfl rfl Try.func29 (by kernel_rfl) rfl #[.agg #[.slice Qy Qa.length Qr,.slice Qv Qe.length Qs,.slice Qz Qc.length Qt]] rfl (by (try simp only [List.map_toArray,List.map_cons,List.map_nil]);first|done|rfl|(simp only [List.length_drop,List.length_take];rfl)) ?_;(with_reducible refine (QX.calls k _ _ Qa _ _ Qe _ _ Qc qkW qkX _ ?side1 ?side2 ?side3 ?side4 ?side5 ?side6 A4.out).mono ?_);(case side1=>repeat (first|exact (Kd.C_below Z1.out HB.out)|(with_reducible refine Kd.C_alloc ?_ _)|(with_reducible refine Kd.C_drewN ?_ _)|(with_reducible refine Kd.C_drew ?_)));(case side2=>exact Zh.out);(case side3=>repeat (first|exact (Kd.C_below Z0.out HB.out)|(with_reducible refine Kd.C_alloc ?_ _)|(with_reducible refine Kd.C_drewN ?_ _)|(with_reducible refine Kd.C_drew ?_)));(case side4=>exact Z9.out);(case side5=>repeat (first|exact (Kd.C_below YV.out HB.out)|(with_reducible refine Kd.C_alloc ?_ _)|(with_reducible refine Kd.C_drewN ?_ _)|(with_reducible refine Kd.C_drew ?_)));(case side6=>exact Zd.out);rintro e w10 ⟨rfl,hb⟩;refine ⟨_,rfl,?_⟩;have n0_:=Q1.mk (Qg (g:=ZK) (by (with_reducible repeat (first|refine Q5 ?_ _|refine Q9 ?_|refine Q4 ?_ _));exact Yd.out) hb);have n1_:=Q1.mk (Qi (by repeat (first|(with_reducible first|exact HB.out|apply Q2|apply Q0|apply Q3|refine Q7 ?_ KA.out)|exact HB.out)) hb);clear Yd HB;have Yd:=n0_;have HB:=n1_;clear n0_ n1_;(try clear hb);(try clear hb2);(try clear hk);(try clear hi)))
 (try simp only [Act.put,List.setIfInBounds_toArray,List.set_cons_zero,List.set_cons_succ])
 go_cut [39] (fun v39 wc => ∃ (kq:Nat) (qm4:Bool),v39 = .bool qm4∧Q1 (QA.j0 kq a1 qm4 Qa Qe Qc=some r)∧Q1 (kq≤k)∧Q1 (wc.heap[ZK]? = some (.cells #[(.slice Qy Qa.length Qr),(.slice Qv Qe.length Qs),(.slice Qz Qc.length Qt)] 47 (0,0)))∧Q1 (Below w.heap.size w wc))
 case first =>
  have H:=HC5.out
  clear HC5
  by_cases c11:qjB=qkW
  ·
   rw [if_pos c11] at H
   have c11b0:(qjB==qkW)=true:=beq_iff_eq.mpr c11
   have c11b1:(qjB != qkW)=false:=bne_eq_false_iff_eq.mpr c11
   clear c11
   (first|rw [c11b0]|(simp only [QC,QD];rw [c11b0])|skip)
   by_cases c12:qjC=qkX
   ·
    rw [if_pos c12] at H;have c12b0:(qjC==qkX)=true:=beq_iff_eq.mpr c12;have c12b1:(qjC != qkX)=false:=bne_eq_false_iff_eq.mpr c12;clear c12;replace H:=Option.bind_eq_some_iff.mp H;obtain ⟨qdQ,qob,H⟩:=H;replace H:((Qb.f k Qa Qe Qc).bind fun qdq=>(QA.j0 k a1 (qdQ != qdq) Qa Qe Qc))=some r:=H;have A13:=Q1.mk qob;clear qob;replace H:=Option.bind_eq_some_iff.mp H;obtain ⟨qdq,qwd,H⟩:=H;replace H:(QA.j0 k a1 (qdQ != qdq) Qa Qe Qc)=some r:=H;have A14:=Q1.mk qwd;clear qwd;have H':=Q1.mk H;clear H
    try go_wp2
    have n0_:=Q1.mk (Q9 Yd.out);have n1_:=Q1.mk (Q3 HB.out);clear Yd HB;have Yd:=n0_;have HB:=n1_;clear n0_ n1_;refine OO (n:=15) (S:=fun w'=>w'.cell? ⟨ZK,0,none⟩=some (.slice Qy Qa.length Qr)∧w'.cell? ⟨ZK,1,none⟩=some (.slice Qv Qe.length Qs)∧w'.cell? ⟨ZK,2,none⟩=some (.slice Qz Qc.length Qt)) (ds:=[]) #[false,false,false,false,false,false,false,false,false,false,false,false,false,false,false] (by kernel_rfl) rfl rfl ⟨(Q6 Yd.out 0).trans rfl,(Q6 Yd.out 1).trans rfl,(Q6 Yd.out 2).trans rfl⟩ (fun hHeld => ?_);refine Gq QA.tab3 QA.bits3 (fun HT_ HW_ => ?_)
    generalize w10.drew=w15 at Yd HB hHeld ⊢
    refine Y2 (i:=0) (N:=some 25) (v:=?_) (a':=?_) #[true,false,false,false,false,false,false,false,false,false,false,false,false,false,false] rfl rfl (QJ HT_.out (by kernel_rfl)) (fun _ _ _ h=>h) (Or.inl ⟨by rfl,?_⟩) ?_ ?_
    rotate_left
    ·
     intro w'
     go_simp
     with_reducible rfl
    rotate_left
    ·
     simp only [Act.put,List.setIfInBounds_toArray,List.set_cons_zero,List.set_cons_succ,QC,QD]
     rfl
    refine Y2 (i:=1) (N:=some 26) (v:=?_) (a':=?_) #[true,true,false,false,false,false,false,false,false,false,false,false,false,false,false] rfl rfl (QJ HT_.out (by kernel_rfl)) (fun _ _ _ h=>h) (Or.inl ⟨by rfl,?_⟩) ?_ ?_
    rotate_left
    ·
     intro w'
     go_simp
     with_reducible rfl
    rotate_left
    ·
     simp only [Act.put,List.setIfInBounds_toArray,List.set_cons_zero,List.set_cons_succ,QC,QD]
     rfl
    refine Y2 (i:=2) (N:=some 27) (v:=?_) (a':=?_) #[true,true,true,false,false,false,false,false,false,false,false,false,false,false,false] rfl rfl (QJ HT_.out (by kernel_rfl)) (fun _ _ _ h=>h) (Or.inl ⟨by rfl,?_⟩) ?_ ?_
    rotate_left
    ·
     intro w'
     go_simp
     with_reducible rfl
    rotate_left
    ·
     simp only [Act.put,List.setIfInBounds_toArray,List.set_cons_zero,List.set_cons_succ,QC,QD]
     rfl
    refine Y2 (i:=3) (N:=some 28) (v:=?_) (a':=?_) #[true,true,true,true,false,false,false,false,false,false,false,false,false,false,false] rfl rfl (QJ HT_.out (by kernel_rfl)) (fun _ _ _ h=>h) (Or.inl ⟨by rfl,?_⟩) ?_ ?_
    rotate_left
    ·
     intro w'
     go_simp
     with_reducible rfl
    rotate_left
    ·
     simp only [Act.put,List.setIfInBounds_toArray,List.set_cons_zero,List.set_cons_succ,QC,QD]
     rfl
    refine Y2 (i:=4) (N:=some 29) (v:=?_) (a':=?_) #[true,true,true,true,true,false,false,false,false,false,false,false,false,false,false] rfl rfl (QJ HT_.out (by kernel_rfl)) (fun _ _ _ h=>h) (Or.inl ⟨by rfl,?_⟩) ?_ ?_
    rotate_left
    ·
     intro w'
     go_simp
     with_reducible rfl
    rotate_left
    ·
     simp only [Act.put,List.setIfInBounds_toArray,List.set_cons_zero,List.set_cons_succ,QC,QD]
     rfl
    refine Y2 (i:=5) (N:=some 30) (v:=?_) (a':=?_) #[true,true,true,true,true,true,false,false,false,false,false,false,false,false,false] rfl rfl (QJ HT_.out (by kernel_rfl)) (fun _ _ _ h=>h) (Or.inl ⟨by rfl,?_⟩) ?_ ?_
    rotate_left
    ·
     intro w'
     go_simp
     with_reducible rfl
    rotate_left
    ·
     simp only [Act.put,List.setIfInBounds_toArray,List.set_cons_zero,List.set_cons_succ,QC,QD]
     rfl
    refine Y2 (i:=6) (N:=some 31) (v:=?_) (a':=?_) #[true,true,true,true,true,true,true,false,false,false,false,false,false,false,false] rfl rfl (QJ HT_.out (by kernel_rfl)) (fun _ _ _ h=>h) (Or.inl ⟨by rfl,?_⟩) ?_ ?_
    rotate_left
    ·
     intro w'
     go_simp
     with_reducible rfl
    rotate_left
    ·
     simp only [Act.put,List.setIfInBounds_toArray,List.set_cons_zero,List.set_cons_succ,QC,QD]
     rfl
    refine Y2 (i:=7) (N:=some 32) (v:=?_) (a':=?_) #[true,true,true,true,true,true,true,true,false,false,false,false,false,false,false] rfl rfl (QJ HT_.out (by kernel_rfl)) (fun _ _ _ h=>h) (Or.inl ⟨by rfl,?_⟩) ?_ ?_
    rotate_left
    ·
     intro w'
     go_simp
     with_reducible rfl
    rotate_left
    ·
     simp only [Act.put,List.setIfInBounds_toArray,List.set_cons_zero,List.set_cons_succ,QC,QD]
     rfl
    refine Y2 (i:=8) (N:=some 33) (v:=?_) (a':=?_) #[true,true,true,true,true,true,true,true,true,false,false,false,false,false,false] rfl rfl (QJ HT_.out (by kernel_rfl)) (fun _ _ _ h=>h) (Or.inl ⟨by rfl,?_⟩) ?_ ?_
    rotate_left
    ·
     intro w'
     go_simp
     with_reducible rfl
    rotate_left
    ·
     simp only [Act.put,List.setIfInBounds_toArray,List.set_cons_zero,List.set_cons_succ,QC,QD]
     rfl
    refine J8 (i:=9) (N:=some 34) (v:=?_) (a':=?_) #[true,true,true,true,true,true,true,true,true,true,false,false,false,false,false] rfl rfl (YN HT_.out HW_.out (by kernel_rfl)) (fun _ _ _ h=>h) (Or.inl ⟨by rfl,?_⟩) hHeld ?_ ?_
    rotate_left
    ·
     rintro w' ⟨s0,s1,s2⟩
     go_simp
     with_reducible rfl
    rotate_left
    ·
     simp only [Act.put,List.setIfInBounds_toArray,List.set_cons_zero,List.set_cons_succ,QC,QD]
     rfl
    refine J8 (i:=11) (N:=some 36) (v:=?_) (a':=?_) #[true,true,true,true,true,true,true,true,true,true,false,true,false,false,false] rfl rfl (YN HT_.out HW_.out (by kernel_rfl)) (fun _ _ _ h=>h) (Or.inl ⟨by rfl,?_⟩) hHeld ?_ ?_
    rotate_left
    ·
     rintro w' ⟨s0,s1,s2⟩
     go_simp
     with_reducible rfl
    rotate_left
    ·
     simp only [Act.put,List.setIfInBounds_toArray,List.set_cons_zero,List.set_cons_succ,QC,QD]
     rfl
    refine one_ (i:=10) (N:=some 35) #[true,true,true,true,true,true,true,true,true,true,true,true,false,false,false] rfl rfl (GD HT_.out (by kernel_rfl)) (by decide) (fun K hK => ?_);refine Wv Try.func30 (by kernel_rfl) rfl #[.agg #[.slice Qy Qa.length Qr,.slice Qv Qe.length Qs,.slice Qz Qc.length Qt]] (by rfl) rfl rfl (by (try simp only [List.map_toArray,List.map_cons,List.map_nil]);first|done|rfl|(simp only [List.length_drop,List.length_take];rfl)) ?_
    with_reducible refine (Qj.calls k _ _ Qa _ _ Qe _ _ Qc qdQ _ ?side1 ?side2 ?side3 ?side4 ?side5 ?side6 A13.out).mono ?_
    (case side1=>repeat (first|exact (Kd.C_below Z1.out HB.out)|(with_reducible refine Kd.C_alloc ?_ _)|(with_reducible refine Kd.C_drewN ?_ _)|(with_reducible refine Kd.C_drew ?_)))
    (case side2=>exact Zh.out)
    (case side3=>repeat (first|exact (Kd.C_below Z0.out HB.out)|(with_reducible refine Kd.C_alloc ?_ _)|(with_reducible refine Kd.C_drewN ?_ _)|(with_reducible refine Kd.C_drew ?_)))
    (case side4=>exact Z9.out)
    (case side5=>repeat (first|exact (Kd.C_below YV.out HB.out)|(with_reducible refine Kd.C_alloc ?_ _)|(with_reducible refine Kd.C_drewN ?_ _)|(with_reducible refine Kd.C_drew ?_)))
    (case side6=>exact Zd.out)
    rintro e w16 ⟨rfl,hb⟩;refine ⟨_,rfl,?_⟩;have n0_:=Q1.mk (Qg (g:=ZK) (by (with_reducible repeat (first|refine Q5 ?_ _|refine Q9 ?_|refine Q4 ?_ _));exact Yd.out) hb);have n1_:=Q1.mk (Qi (by repeat (first|(with_reducible first|exact HB.out|apply Q2|apply Q0|apply Q3|refine Q7 ?_ KA.out)|exact HB.out)) hb);clear Yd HB;have Yd:=n0_;have HB:=n1_;clear n0_ n1_
    (try clear hb)
    (try clear hb2)
    (try clear hk)
    (try clear hi)
    refine hK.out _ _ ⟨(Q6 Yd.out 0).trans rfl,(Q6 Yd.out 1).trans rfl,(Q6 Yd.out 2).trans rfl⟩ (fun hHeld => ?_);clear hK K;refine GA (a':=?_) ?_ ?_
    rotate_left
    ·
     show Act.put _ (some 35) _=_
     simp only [Act.put,List.setIfInBounds_toArray,List.set_cons_zero,List.set_cons_succ,QC,QD]
     rfl
    refine one_ (i:=12) (N:=some 37) #[true,true,true,true,true,true,true,true,true,true,true,true,true,false,false] rfl rfl (GD HT_.out (by kernel_rfl)) (by decide) (fun K hK => ?_);refine Wv Try.func31 (by kernel_rfl) rfl #[.agg #[.slice Qy Qa.length Qr,.slice Qv Qe.length Qs,.slice Qz Qc.length Qt]] (by rfl) rfl rfl (by (try simp only [List.map_toArray,List.map_cons,List.map_nil]);first|done|rfl|(simp only [List.length_drop,List.length_take];rfl)) ?_
    with_reducible refine (Qb.calls k _ _ Qa _ _ Qe _ _ Qc qdq _ ?side1 ?side2 ?side3 ?side4 ?side5 ?side6 A14.out).mono ?_
    (case side1=>repeat (first|exact (Kd.C_below Z1.out HB.out)|(with_reducible refine Kd.C_alloc ?_ _)|(with_reducible refine Kd.C_drewN ?_ _)|(with_reducible refine Kd.C_drew ?_)))
    (case side2=>exact Zh.out)
    (case side3=>repeat (first|exact (Kd.C_below Z0.out HB.out)|(with_reducible refine Kd.C_alloc ?_ _)|(with_reducible refine Kd.C_drewN ?_ _)|(with_reducible refine Kd.C_drew ?_)))
    (case side4=>exact Z9.out)
    (case side5=>repeat (first|exact (Kd.C_below YV.out HB.out)|(with_reducible refine Kd.C_alloc ?_ _)|(with_reducible refine Kd.C_drewN ?_ _)|(with_reducible refine Kd.C_drew ?_)))
    (case side6=>exact Zd.out)
    rintro e w17 ⟨rfl,hb⟩;refine ⟨_,rfl,?_⟩;have n0_:=Q1.mk (Qg (g:=ZK) (by (with_reducible repeat (first|refine Q5 ?_ _|refine Q9 ?_|refine Q4 ?_ _));exact Yd.out) hb);have n1_:=Q1.mk (Qi (by repeat (first|(with_reducible first|exact HB.out|apply Q2|apply Q0|apply Q3|refine Q7 ?_ KA.out)|exact HB.out)) hb);clear Yd HB;have Yd:=n0_;have HB:=n1_;clear n0_ n1_
    (try clear hb)
    (try clear hb2)
    (try clear hk)
    (try clear hi)
    refine hK.out _ _ ⟨(Q6 Yd.out 0).trans rfl,(Q6 Yd.out 1).trans rfl,(Q6 Yd.out 2).trans rfl⟩ (fun hHeld => ?_);clear hK K;refine GA (a':=?_) ?_ ?_
    rotate_left
    ·
     show Act.put _ (some 37) _=_
     simp only [Act.put,List.setIfInBounds_toArray,List.set_cons_zero,List.set_cons_succ,QC,QD]
     rfl
    refine Y2 (i:=13) (N:=some 38) (v:=?_) (a':=?_) #[true,true,true,true,true,true,true,true,true,true,true,true,true,true,false] rfl rfl (QJ HT_.out (by kernel_rfl)) (fun _ _ _ h=>h) (Or.inl ⟨by rfl,?_⟩) ?_ ?_
    rotate_left
    ·
     intro w'
     go_simp
     with_reducible rfl
    rotate_left
    ·
     simp only [Act.put,List.setIfInBounds_toArray,List.set_cons_zero,List.set_cons_succ,QC,QD]
     rfl
    refine Y2 (i:=14) (N:=some 39) (v:=?_) (a':=?_) #[true,true,true,true,true,true,true,true,true,true,true,true,true,true,true] rfl rfl (QJ HT_.out (by kernel_rfl)) (fun _ _ _ h=>h) (Or.inl ⟨by rfl,?_⟩) ?_ ?_
    rotate_left
    ·
     intro w'
     go_simp
     with_reducible rfl
    rotate_left
    ·
     simp only [Act.put,List.setIfInBounds_toArray,List.set_cons_zero,List.set_cons_succ,QC,QD]
     rfl
    refine Wu (KC HT_.out (by kernel_rfl)) ?_
    try go_wp2
    go_meet
    case rel=>exact ⟨_,((qdQ != qdq)),(by first|rfl|(simp;done)|(simp [*];done)),H',⟨by first|omega|exact Nat.le_refl _⟩,⟨by (with_reducible repeat (first|refine Q5 ?_ _|refine Q9 ?_|refine Q4 ?_ _));exact Yd.out⟩,⟨by repeat (first|(with_reducible first|exact HB.out|apply Q2|apply Q0|apply Q3|refine Q7 ?_ KA.out)|exact HB.out)⟩⟩
   rw [if_neg c12] at H
   have c12b0:(qjC==qkX)=false:=beq_eq_false_iff_ne.mpr c12
   have c12b1:(qjC != qkX)=true:=bne_iff_ne.mpr c12
   have H':=Q1.mk H
   clear H
   try go_wp2
   have n0_:=Q1.mk (Q9 Yd.out)
   have n1_:=Q1.mk (Q3 HB.out)
   clear Yd
   clear HB
   have Yd:=n0_
   have HB:=n1_
   clear n0_ n1_
   refine OO (n:=15) (S:=fun w'=>True) (ds:=[]) #[false,false,false,false,false,false,false,false,false,false,false,false,false,false,false] (by kernel_rfl) rfl rfl trivial (fun hHeld => ?_);refine Gq QA.tab3 QA.bits3 (fun HT_ HW_ => ?_)
   generalize w10.drew=w18 at Yd HB hHeld ⊢
   refine Y2 (i:=0) (N:=some 25) (v:=?_) (a':=?_) #[true,false,false,false,false,false,false,false,false,false,false,false,false,false,false] rfl rfl (QJ HT_.out (by kernel_rfl)) (fun _ _ _ h=>h) (Or.inl ⟨by rfl,?_⟩) ?_ ?_
   rotate_left
   ·
    intro w'
    go_simp
    with_reducible rfl
   rotate_left
   ·
    simp only [Act.put,List.setIfInBounds_toArray,List.set_cons_zero,List.set_cons_succ,QC,QD]
    rfl
   refine Y2 (i:=1) (N:=some 26) (v:=?_) (a':=?_) #[true,true,false,false,false,false,false,false,false,false,false,false,false,false,false] rfl rfl (QJ HT_.out (by kernel_rfl)) (fun _ _ _ h=>h) (Or.inl ⟨by rfl,?_⟩) ?_ ?_
   rotate_left
   ·
    intro w'
    go_simp
    with_reducible rfl
   rotate_left
   ·
    simp only [Act.put,List.setIfInBounds_toArray,List.set_cons_zero,List.set_cons_succ,QC,QD]
    rfl
   refine Y2 (i:=2) (N:=some 27) (v:=?_) (a':=?_) #[true,true,true,false,false,false,false,false,false,false,false,false,false,false,false] rfl rfl (QJ HT_.out (by kernel_rfl)) (fun _ _ _ h=>h) (Or.inl ⟨by rfl,?_⟩) ?_ ?_
   rotate_left
   ·
    intro w'
    go_simp
    with_reducible rfl
   rotate_left
   ·
    simp only [Act.put,List.setIfInBounds_toArray,List.set_cons_zero,List.set_cons_succ,QC,QD]
    rfl
   refine Y2 (i:=3) (N:=some 28) (v:=?_) (a':=?_) #[true,true,true,true,false,false,false,false,false,false,false,false,false,false,false] rfl rfl (QJ HT_.out (by kernel_rfl)) (fun _ _ _ h=>h) (Or.inl ⟨by rfl,?_⟩) ?_ ?_
   rotate_left
   ·
    intro w'
    go_simp
    with_reducible rfl
   rotate_left
   ·
    simp only [Act.put,List.setIfInBounds_toArray,List.set_cons_zero,List.set_cons_succ,QC,QD]
    rfl
   refine Y2 (i:=4) (N:=some 29) (v:=?_) (a':=?_) #[true,true,true,true,true,false,false,false,false,false,false,false,false,false,false] rfl rfl (QJ HT_.out (by kernel_rfl)) (fun _ _ _ h=>h) (Or.inl ⟨by rfl,?_⟩) ?_ ?_
   rotate_left
   ·
    intro w'
    go_simp
    with_reducible rfl
   rotate_left
   ·
    simp only [Act.put,List.setIfInBounds_toArray,List.set_cons_zero,List.set_cons_succ,QC,QD]
    rfl
   refine Y2 (i:=5) (N:=some 30) (v:=?_) (a':=?_) #[true,true,true,true,true,true,false,false,false,false,false,false,false,false,false] rfl rfl (QJ HT_.out (by kernel_rfl)) (fun _ _ _ h=>h) (Or.inl ⟨by rfl,?_⟩) ?_ ?_
   rotate_left
   ·
    intro w'
    go_simp
    with_reducible rfl
   rotate_left
   ·
    simp only [Act.put,List.setIfInBounds_toArray,List.set_cons_zero,List.set_cons_succ,QC,QD]
    rfl
   refine Y2 (i:=6) (N:=some 31) (v:=?_) (a':=?_) #[true,true,true,true,true,true,true,false,false,false,false,false,false,false,false] rfl rfl (QJ HT_.out (by kernel_rfl)) (fun _ _ _ h=>h) (Or.inl ⟨by rfl,?_⟩) ?_ ?_
   rotate_left
   ·
    intro w'
    go_simp
    with_reducible rfl
   rotate_left
   ·
    simp only [Act.put,List.setIfInBounds_toArray,List.set_cons_zero,List.set_cons_succ,QC,QD]
    rfl
   refine Y2 (i:=7) (N:=some 32) (v:=?_) (a':=?_) #[true,true,true,true,true,true,true,true,false,false,false,false,false,false,false] rfl rfl (QJ HT_.out (by kernel_rfl)) (fun _ _ _ h=>h) (Or.inl ⟨by rfl,?_⟩) ?_ ?_
   rotate_left
   ·
    intro w'
    go_simp
    with_reducible rfl
   rotate_left
   ·
    simp only [Act.put,List.setIfInBounds_toArray,List.set_cons_zero,List.set_cons_succ,QC,QD]
    rfl
   refine Y2 (i:=8) (N:=some 33) (v:=?_) (a':=?_) #[true,true,true,true,true,true,true,true,true,false,false,false,false,false,false] rfl rfl (QJ HT_.out (by kernel_rfl)) (fun _ _ _ h=>h) (Or.inl ⟨by rfl,?_⟩) ?_ ?_
   rotate_left
   ·
    intro w'
    go_simp
    with_reducible rfl
   rotate_left
   ·
    simp only [Act.put,List.setIfInBounds_toArray,List.set_cons_zero,List.set_cons_succ,QC,QD]
    rfl
   refine Y2 (i:=9) (N:=some 34) (v:=undef) (a':=?_) #[true,true,true,true,true,true,true,true,true,true,false,false,false,false,false] rfl rfl (QJ HT_.out (by kernel_rfl)) (fun _ _ _ h=>h) (Or.inr ⟨by rfl,rfl⟩) ?_ ?_
   rotate_left
   ·
    simp only [Act.put,List.setIfInBounds_toArray,List.set_cons_zero,List.set_cons_succ,QC,QD]
    rfl
   refine Y2 (i:=10) (N:=some 35) (v:=undef) (a':=?_) #[true,true,true,true,true,true,true,true,true,true,true,false,false,false,false] rfl rfl (QJ HT_.out (by kernel_rfl)) (fun _ _ _ h=>h) (Or.inr ⟨by rfl,rfl⟩) ?_ ?_
   rotate_left
   ·
    simp only [Act.put,List.setIfInBounds_toArray,List.set_cons_zero,List.set_cons_succ,QC,QD]
    rfl
   refine Y2 (i:=11) (N:=some 36) (v:=undef) (a':=?_) #[true,true,true,true,true,true,true,true,true,true,true,true,false,false,false] rfl rfl (QJ HT_.out (by kernel_rfl)) (fun _ _ _ h=>h) (Or.inr ⟨by rfl,rfl⟩) ?_ ?_
   rotate_left
   ·
    simp only [Act.put,List.setIfInBounds_toArray,List.set_cons_zero,List.set_cons_succ,QC,QD]
    rfl
   refine Y2 (i:=12) (N:=some 37) (v:=undef) (a':=?_) #[true,true,true,true,true,true,true,true,true,true,true,true,true,false,false] rfl rfl (QJ HT_.out (by kernel_rfl)) (fun _ _ _ h=>h) (Or.inr ⟨by rfl,rfl⟩) ?_ ?_
   rotate_left
   ·
    simp only [Act.put,List.setIfInBounds_toArray,List.set_cons_zero,List.set_cons_succ,QC,QD]
    rfl
   refine Y2 (i:=13) (N:=some 38) (v:=undef) (a':=?_) #[true,true,true,true,true,true,true,true,true,true,true,true,true,true,false] rfl rfl (QJ HT_.out (by kernel_rfl)) (fun _ _ _ h=>h) (Or.inr ⟨by rfl,rfl⟩) ?_ ?_
   rotate_left
   ·
    simp only [Act.put,List.setIfInBounds_toArray,List.set_cons_zero,List.set_cons_succ,QC,QD]
    rfl
   refine Y2 (i:=14) (N:=some 39) (v:=?_) (a':=?_) #[true,true,true,true,true,true,true,true,true,true,true,true,true,true,true] rfl rfl (QJ HT_.out (by kernel_rfl)) (fun _ _ _ h=>h) (Or.inl ⟨by rfl,?_⟩) ?_ ?_
   rotate_left
   ·
    intro w'
    go_simp
    with_reducible rfl
   rotate_left
   ·
    simp only [Act.put,List.setIfInBounds_toArray,List.set_cons_zero,List.set_cons_succ,QC,QD]
    rfl
   refine Wu (KC HT_.out (by kernel_rfl)) ?_
   try go_wp2
   go_meet
   case rel=>exact ⟨_,(true),(by first|rfl|(simp;done)|(simp [*];done)),H',⟨by first|omega|exact Nat.le_refl _⟩,⟨by (with_reducible repeat (first|refine Q5 ?_ _|refine Q9 ?_|refine Q4 ?_ _));exact Yd.out⟩,⟨by repeat (first|(with_reducible first|exact HB.out|apply Q2|apply Q0|apply Q3|refine Q7 ?_ KA.out)|exact HB.out)⟩⟩
  rw [if_neg c11] at H
  have c11b0:(qjB==qkW)=false:=beq_eq_false_iff_ne.mpr c11
  have c11b1:(qjB != qkW)=true:=bne_iff_ne.mpr c11
  (first|rw [c11b0]|(simp only [QC,QD];rw [c11b0])|skip)
  have H':=Q1.mk H
  clear H
  try go_wp2
  have n0_:=Q1.mk (Q9 Yd.out)
  have n1_:=Q1.mk (Q3 HB.out)
  clear Yd
  clear HB
  have Yd:=n0_
  have HB:=n1_
  clear n0_ n1_
  refine OO (n:=15) (S:=fun w'=>True) (ds:=[]) #[false,false,false,false,false,false,false,false,false,false,false,false,false,false,false] (by kernel_rfl) rfl rfl trivial (fun hHeld => ?_);refine Gq QA.tab3 QA.bits3 (fun HT_ HW_ => ?_)
  generalize w10.drew=w19 at Yd HB hHeld ⊢
  refine Y2 (i:=0) (N:=some 25) (v:=?_) (a':=?_) #[true,false,false,false,false,false,false,false,false,false,false,false,false,false,false] rfl rfl (QJ HT_.out (by kernel_rfl)) (fun _ _ _ h=>h) (Or.inl ⟨by rfl,?_⟩) ?_ ?_
  rotate_left
  ·
   intro w'
   go_simp
   with_reducible rfl
  rotate_left
  ·
   simp only [Act.put,List.setIfInBounds_toArray,List.set_cons_zero,List.set_cons_succ,QC,QD]
   rfl
  refine Y2 (i:=1) (N:=some 26) (v:=?_) (a':=?_) #[true,true,false,false,false,false,false,false,false,false,false,false,false,false,false] rfl rfl (QJ HT_.out (by kernel_rfl)) (fun _ _ _ h=>h) (Or.inl ⟨by rfl,?_⟩) ?_ ?_
  rotate_left
  ·
   intro w'
   go_simp
   with_reducible rfl
  rotate_left
  ·
   simp only [Act.put,List.setIfInBounds_toArray,List.set_cons_zero,List.set_cons_succ,QC,QD]
   rfl
  refine Y2 (i:=2) (N:=some 27) (v:=?_) (a':=?_) #[true,true,true,false,false,false,false,false,false,false,false,false,false,false,false] rfl rfl (QJ HT_.out (by kernel_rfl)) (fun _ _ _ h=>h) (Or.inl ⟨by rfl,?_⟩) ?_ ?_
  rotate_left
  ·
   intro w'
   go_simp
   with_reducible rfl
  rotate_left
  ·
   simp only [Act.put,List.setIfInBounds_toArray,List.set_cons_zero,List.set_cons_succ,QC,QD]
   rfl
  refine Y2 (i:=3) (N:=some 28) (v:=?_) (a':=?_) #[true,true,true,true,false,false,false,false,false,false,false,false,false,false,false] rfl rfl (QJ HT_.out (by kernel_rfl)) (fun _ _ _ h=>h) (Or.inl ⟨by rfl,?_⟩) ?_ ?_
  rotate_left
  ·
   intro w'
   go_simp
   with_reducible rfl
  rotate_left
  ·
   simp only [Act.put,List.setIfInBounds_toArray,List.set_cons_zero,List.set_cons_succ,QC,QD]
   rfl
  refine Y2 (i:=4) (N:=some 29) (v:=undef) (a':=?_) #[true,true,true,true,true,false,false,false,false,false,false,false,false,false,false] rfl rfl (QJ HT_.out (by kernel_rfl)) (fun _ _ _ h=>h) (Or.inr ⟨by rfl,rfl⟩) ?_ ?_
  rotate_left
  ·
   simp only [Act.put,List.setIfInBounds_toArray,List.set_cons_zero,List.set_cons_succ,QC,QD]
   rfl
  refine Y2 (i:=5) (N:=some 30) (v:=undef) (a':=?_) #[true,true,true,true,true,true,false,false,false,false,false,false,false,false,false] rfl rfl (QJ HT_.out (by kernel_rfl)) (fun _ _ _ h=>h) (Or.inr ⟨by rfl,rfl⟩) ?_ ?_
  rotate_left
  ·
   simp only [Act.put,List.setIfInBounds_toArray,List.set_cons_zero,List.set_cons_succ,QC,QD]
   rfl
  refine Y2 (i:=6) (N:=some 31) (v:=undef) (a':=?_) #[true,true,true,true,true,true,true,false,false,false,false,false,false,false,false] rfl rfl (QJ HT_.out (by kernel_rfl)) (fun _ _ _ h=>h) (Or.inr ⟨by rfl,rfl⟩) ?_ ?_
  rotate_left
  ·
   simp only [Act.put,List.setIfInBounds_toArray,List.set_cons_zero,List.set_cons_succ,QC,QD]
   rfl
  refine Y2 (i:=7) (N:=some 32) (v:=?_) (a':=?_) #[true,true,true,true,true,true,true,true,false,false,false,false,false,false,false] rfl rfl (QJ HT_.out (by kernel_rfl)) (fun _ _ _ h=>h) (Or.inl ⟨by rfl,?_⟩) ?_ ?_
  rotate_left
  ·
   intro w'
   go_simp
   with_reducible rfl
  rotate_left
  ·
   simp only [Act.put,List.setIfInBounds_toArray,List.set_cons_zero,List.set_cons_succ,QC,QD]
   rfl
  refine Y2 (i:=8) (N:=some 33) (v:=?_) (a':=?_) #[true,true,true,true,true,true,true,true,true,false,false,false,false,false,false] rfl rfl (QJ HT_.out (by kernel_rfl)) (fun _ _ _ h=>h) (Or.inl ⟨by rfl,?_⟩) ?_ ?_
  rotate_left
  ·
   intro w'
   go_simp
   with_reducible rfl
  rotate_left
  ·
   simp only [Act.put,List.setIfInBounds_toArray,List.set_cons_zero,List.set_cons_succ,QC,QD]
   rfl
  refine Y2 (i:=9) (N:=some 34) (v:=undef) (a':=?_) #[true,true,true,true,true,true,true,true,true,true,false,false,false,false,false] rfl rfl (QJ HT_.out (by kernel_rfl)) (fun _ _ _ h=>h) (Or.inr ⟨by rfl,rfl⟩) ?_ ?_
  rotate_left
  ·
   simp only [Act.put,List.setIfInBounds_toArray,List.set_cons_zero,List.set_cons_succ,QC,QD]
   rfl
  refine Y2 (i:=10) (N:=some 35) (v:=undef) (a':=?_) #[true,true,true,true,true,true,true,true,true,true,true,false,false,false,false] rfl rfl (QJ HT_.out (by kernel_rfl)) (fun _ _ _ h=>h) (Or.inr ⟨by rfl,rfl⟩) ?_ ?_
  rotate_left
  ·
   simp only [Act.put,List.setIfInBounds_toArray,List.set_cons_zero,List.set_cons_succ,QC,QD]
   rfl
  refine Y2 (i:=11) (N:=some 36) (v:=undef) (a':=?_) #[true,true,true,true,true,true,true,true,true,true,true,true,false,false,false] rfl rfl (QJ HT_.out (by kernel_rfl)) (fun _ _ _ h=>h) (Or.inr ⟨by rfl,rfl⟩) ?_ ?_
  rotate_left
  ·
   simp only [Act.put,List.setIfInBounds_toArray,List.set_cons_zero,List.set_cons_succ,QC,QD]
   rfl
  refine Y2 (i:=12) (N:=some 37) (v:=undef) (a':=?_) #[true,true,true,true,true,true,true,true,true,true,true,true,true,false,false] rfl rfl (QJ HT_.out (by kernel_rfl)) (fun _ _ _ h=>h) (Or.inr ⟨by rfl,rfl⟩) ?_ ?_
  rotate_left
  ·
   simp only [Act.put,List.setIfInBounds_toArray,List.set_cons_zero,List.set_cons_succ,QC,QD]
   rfl
  refine Y2 (i:=13) (N:=some 38) (v:=undef) (a':=?_) #[true,true,true,true,true,true,true,true,true,true,true,true,true,true,false] rfl rfl (QJ HT_.out (by kernel_rfl)) (fun _ _ _ h=>h) (Or.inr ⟨by rfl,rfl⟩) ?_ ?_
  rotate_left
  ·
   simp only [Act.put,List.setIfInBounds_toArray,List.set_cons_zero,List.set_cons_succ,QC,QD]
   rfl
  refine Y2 (i:=14) (N:=some 39) (v:=?_) (a':=?_) #[true,true,true,true,true,true,true,true,true,true,true,true,true,true,true] rfl rfl (QJ HT_.out (by kernel_rfl)) (fun _ _ _ h=>h) (Or.inl ⟨by rfl,?_⟩) ?_ ?_
  rotate_left
  ·
   intro w'
   go_simp
   with_reducible rfl
  rotate_left
  ·
   simp only [Act.put,List.setIfInBounds_toArray,List.set_cons_zero,List.set_cons_succ,QC,QD]
   rfl
  refine Wu (KC HT_.out (by kernel_rfl)) ?_
  try go_wp2
  go_meet
  case rel=>exact ⟨_,(true),(by first|rfl|(simp;done)|(simp [*];done)),H',⟨by first|omega|exact Nat.le_refl _⟩,⟨by (with_reducible repeat (first|refine Q5 ?_ _|refine Q9 ?_|refine Q4 ?_ _));exact Yd.out⟩,⟨by repeat (first|(with_reducible first|exact HB.out|apply Q2|apply Q0|apply Q3|refine Q7 ?_ KA.out)|exact HB.out)⟩⟩
 case rest =>
  clear HC5
  try clear c1
  try clear c2
  try clear p2
  try clear c3
  try clear c6
  try clear c11
  try clear c11b0
  try clear c11b1
  try clear c12
  try clear c12b0
  try clear c12b1
  try clear qdf
  try clear qdg
  try clear qdh
  try clear GH
  try clear GI
  try clear GJ
  try clear qdi
  try clear qdj
  try clear qdk
  try clear GK
  try clear GL
  try clear GM
  obtain ⟨kq,qm4,rfl,HA,HJ4,Yd,HB⟩:=hcut
  cases kq with
  | zero=>exact absurd HA.out (by simp [QA.j0])
  | succ kj4 =>
   have H:=HA.out
   clear HA
   simp only [QA.j0] at H
   by_cases c20:qm4=true
   ·
    subst c20
    have H1:(some false)=some r:=by rw [if_pos rfl] at H;exact H
    clear H;have H:=H1;clear H1;obtain rfl:=Option.some.inj H
    go_wp2
    go_ret
    exact ⟨by first|rfl|(simp [Qw,Qx]<;>rfl)|(simp [*,Qw,Qx]<;>rfl),by repeat (first|(with_reducible first|exact HB.out|apply Q2|apply Q0|apply Q3|refine Q7 ?_ KA.out)|exact HB.out)⟩
   replace c20:=Bool.eq_false_iff.mpr c20
   subst c20
   have H1:((Yc.f kj4 Qa Qe Qc a1).bind fun WN=>((Zl.f kj4 Qa Qe Qc a1).bind fun U2=>(if WN.1=U2.1 then (if WN.2.1=U2.2.1 then (if WN.2.2.1=U2.2.2.1 then (if WN.2.2.2=U2.2.2.2 then ((ZS.f).bind fun qdV=>(some qdV)) else (some false)) else (some false)) else (some false)) else (some false))))=some r:=by rw [if_neg (show ¬ (false=true) by decide)] at H;exact H
   clear H
   have H:=H1
   clear H1
   replace H:=Option.bind_eq_some_iff.mp H
   obtain ⟨⟨qdR,qdS,qdT,qdU⟩,qez,H⟩:=H
   replace H:((Zl.f kj4 Qa Qe Qc a1).bind fun U2=>(if qdR=U2.1 then (if qdS=U2.2.1 then (if qdT=U2.2.2.1 then (if qdU=U2.2.2.2 then ((ZS.f).bind fun qdV=>(some qdV)) else (some false)) else (some false)) else (some false)) else (some false)))=some r:=H
   have A21:=Q1.mk qez
   clear qez
   replace H:=Option.bind_eq_some_iff.mp H
   obtain ⟨⟨qfd,qfe,qff,qfg⟩,qoc,H⟩:=H
   replace H:(if qdR=qfd then (if qdS=qfe then (if qdT=qff then (if qdU=qfg then ((ZS.f).bind fun qdV=>(some qdV)) else (some false)) else (some false)) else (some false)) else (some false))=some r:=H
   have A22:=Q1.mk qoc
   clear qoc
   by_cases c23:qdR=qfd
   ·
    rw [if_pos c23] at H;have c23b0:(qdR==qfd)=true:=beq_iff_eq.mpr c23;have c23b1:(qdR != qfd)=false:=bne_eq_false_iff_eq.mpr c23;clear c23
    by_cases c24:qdS=qfe
    ·
     rw [if_pos c24] at H;have c24b0:(qdS==qfe)=true:=beq_iff_eq.mpr c24;have c24b1:(qdS != qfe)=false:=bne_eq_false_iff_eq.mpr c24;clear c24
     by_cases c25:qdT=qff
     ·
      rw [if_pos c25] at H;have c25b0:(qdT==qff)=true:=beq_iff_eq.mpr c25;have c25b1:(qdT != qff)=false:=bne_eq_false_iff_eq.mpr c25;clear c25
      by_cases c26:qdU=qfg
      ·
       rw [if_pos c26] at H;have c26b0:(qdU==qfg)=true:=beq_iff_eq.mpr c26;have c26b1:(qdU != qfg)=false:=bne_eq_false_iff_eq.mpr c26;clear c26;replace H:=Option.bind_eq_some_iff.mp H;obtain ⟨qdV,qhQ,H⟩:=H;replace H:(some qdV)=some r:=H;have A27:=Q1.mk qhQ;clear qhQ;obtain rfl:=Option.some.inj H;have qb7:wc.cell? ⟨ZK,0,none⟩=some (.slice Qy Qa.length Qr):=(Q6 Yd.out 0).trans rfl;have qb8:wc.cell? ⟨ZK,1,none⟩=some (.slice Qv Qe.length Qs):=(Q6 Yd.out 1).trans rfl;have qlH:wc.cell? ⟨ZK,2,none⟩=some (.slice Qz Qc.length Qt):=(Q6 Yd.out 2).trans rfl;have qce:=Q8 Yd.out 0;have qcf:=Q8 Yd.out 1;have ql2:=Q8 Yd.out 2
       go_wp2_with (first|((with_reducible refine Qu (f:=32) rfl ?_);refine Yk (some 43) rfl rfl Try.func32 (by kernel_rfl) rfl #[.agg #[.slice Qy Qa.length Qr,.slice Qv Qe.length Qs,.slice Qz Qc.length Qt],.int .i64 a1] rfl (by (try simp only [List.map_toArray,List.map_cons,List.map_nil]);first|done|rfl|(simp only [List.length_drop,List.length_take];rfl)) ?_;(with_reducible refine (Yc.calls kj4 _ _ Qa _ _ Qe _ _ Qc a1 qdR qdS qdT qdU _ ?side1 ?side2 ?side3 ?side4 ?side5 ?side6 A21.out).mono ?_);(case side1=>repeat (first|exact (Kd.C_below Z1.out HB.out)|(with_reducible refine Kd.C_alloc ?_ _)|(with_reducible refine Kd.C_drewN ?_ _)|(with_reducible refine Kd.C_drew ?_)));(case side2=>exact Zh.out);(case side3=>repeat (first|exact (Kd.C_below Z0.out HB.out)|(with_reducible refine Kd.C_alloc ?_ _)|(with_reducible refine Kd.C_drewN ?_ _)|(with_reducible refine Kd.C_drew ?_)));(case side4=>exact Z9.out);(case side5=>repeat (first|exact (Kd.C_below YV.out HB.out)|(with_reducible refine Kd.C_alloc ?_ _)|(with_reducible refine Kd.C_drewN ?_ _)|(with_reducible refine Kd.C_drew ?_)));(case side6=>exact Zd.out);rintro e w29 ⟨rfl,hb⟩;refine ⟨_,rfl,?_⟩;have n0_:=Q1.mk (Qg (g:=ZK) (by (with_reducible repeat (first|refine Q5 ?_ _|refine Q9 ?_|refine Q4 ?_ _));exact Yd.out) hb);have n1_:=Q1.mk (Qi (by repeat (first|(with_reducible first|exact HB.out|apply Q2|apply Q0|apply Q3|refine Q7 ?_ KA.out)|exact HB.out)) hb);clear Yd HB;have Yd:=n0_;have HB:=n1_;clear n0_ n1_;(try clear hb);(try clear hb2);(try clear hk);(try clear hi);have qlL:w29.cell? ⟨ZK,0,none⟩=some (.slice Qy Qa.length Qr):=(Q6 Yd.out 0).trans rfl;have qlM:w29.cell? ⟨ZK,1,none⟩=some (.slice Qv Qe.length Qs):=(Q6 Yd.out 1).trans rfl;have qlN:w29.cell? ⟨ZK,2,none⟩=some (.slice Qz Qc.length Qt):=(Q6 Yd.out 2).trans rfl;have ql6:=Q8 Yd.out 0;have ql7:=Q8 Yd.out 1;have ql8:=Q8 Yd.out 2)|((with_reducible refine Qu (f:=33) rfl ?_);refine Yk (some 51) rfl rfl Try.func33 (by kernel_rfl) rfl #[.agg #[.slice Qy Qa.length Qr,.slice Qv Qe.length Qs,.slice Qz Qc.length Qt],.int .i64 a1] rfl (by (try simp only [List.map_toArray,List.map_cons,List.map_nil]);first|done|rfl|(simp only [List.length_drop,List.length_take];rfl)) ?_;(with_reducible refine (Zl.calls kj4 _ _ Qa _ _ Qe _ _ Qc a1 qfd qfe qff qfg _ ?side1 ?side2 ?side3 ?side4 ?side5 ?side6 A22.out).mono ?_);(case side1=>repeat (first|exact (Kd.C_below Z1.out HB.out)|(with_reducible refine Kd.C_alloc ?_ _)|(with_reducible refine Kd.C_drewN ?_ _)|(with_reducible refine Kd.C_drew ?_)));(case side2=>exact Zh.out);(case side3=>repeat (first|exact (Kd.C_below Z0.out HB.out)|(with_reducible refine Kd.C_alloc ?_ _)|(with_reducible refine Kd.C_drewN ?_ _)|(with_reducible refine Kd.C_drew ?_)));(case side4=>exact Z9.out);(case side5=>repeat (first|exact (Kd.C_below YV.out HB.out)|(with_reducible refine Kd.C_alloc ?_ _)|(with_reducible refine Kd.C_drewN ?_ _)|(with_reducible refine Kd.C_drew ?_)));(case side6=>exact Zd.out);rintro e w31 ⟨rfl,hb⟩;refine ⟨_,rfl,?_⟩;have n0_:=Q1.mk (Qg (g:=ZK) (by (with_reducible repeat (first|refine Q5 ?_ _|refine Q9 ?_|refine Q4 ?_ _));exact Yd.out) hb);have n1_:=Q1.mk (Qi (by repeat (first|(with_reducible first|exact HB.out|apply Q2|apply Q0|apply Q3|refine Q7 ?_ KA.out)|exact HB.out)) hb);clear Yd HB;have Yd:=n0_;have HB:=n1_;clear n0_ n1_;(try clear hb);(try clear hb2);(try clear hk);(try clear hi))|(go_at_call 21;(with_reducible refine (ZS.calls  qdV _ A27.out).mono ?_);rintro e w32 ⟨rfl,hb⟩;have n0_:=Q1.mk (Qg (g:=ZK) (by (with_reducible repeat (first|refine Q5 ?_ _|refine Q9 ?_|refine Q4 ?_ _));exact Yd.out) hb);have n1_:=Q1.mk (Qi (by repeat (first|(with_reducible first|exact HB.out|apply Q2|apply Q0|apply Q3|refine Q7 ?_ KA.out)|exact HB.out)) hb);clear Yd HB;have Yd:=n0_;have HB:=n1_;clear n0_ n1_;(try clear hb);(try clear hb2);(try clear hk);(try clear hi)))
       go_ret
       exact ⟨by first|rfl|(simp [Qw,Qx]<;>rfl)|(simp [*,Qw,Qx]<;>rfl),by repeat (first|(with_reducible first|exact HB.out|apply Q2|apply Q0|apply Q3|refine Q7 ?_ KA.out)|exact HB.out)⟩
      rw [if_neg c26] at H;have c26b0:(qdU==qfg)=false:=beq_eq_false_iff_ne.mpr c26;have c26b1:(qdU != qfg)=true:=bne_iff_ne.mpr c26;obtain rfl:=Option.some.inj H;have qz2:wc.cell? ⟨ZK,0,none⟩=some (.slice Qy Qa.length Qr):=(Q6 Yd.out 0).trans rfl;have qz3:wc.cell? ⟨ZK,1,none⟩=some (.slice Qv Qe.length Qs):=(Q6 Yd.out 1).trans rfl;have qz4:wc.cell? ⟨ZK,2,none⟩=some (.slice Qz Qc.length Qt):=(Q6 Yd.out 2).trans rfl;have qBR:=Q8 Yd.out 0;have qBS:=Q8 Yd.out 1;have qBT:=Q8 Yd.out 2
      go_wp2_with (first|((with_reducible refine Qu (f:=32) rfl ?_);refine Yk (some 43) rfl rfl Try.func32 (by kernel_rfl) rfl #[.agg #[.slice Qy Qa.length Qr,.slice Qv Qe.length Qs,.slice Qz Qc.length Qt],.int .i64 a1] rfl (by (try simp only [List.map_toArray,List.map_cons,List.map_nil]);first|done|rfl|(simp only [List.length_drop,List.length_take];rfl)) ?_;(with_reducible refine (Yc.calls kj4 _ _ Qa _ _ Qe _ _ Qc a1 qdR qdS qdT qdU _ ?side1 ?side2 ?side3 ?side4 ?side5 ?side6 A21.out).mono ?_);(case side1=>repeat (first|exact (Kd.C_below Z1.out HB.out)|(with_reducible refine Kd.C_alloc ?_ _)|(with_reducible refine Kd.C_drewN ?_ _)|(with_reducible refine Kd.C_drew ?_)));(case side2=>exact Zh.out);(case side3=>repeat (first|exact (Kd.C_below Z0.out HB.out)|(with_reducible refine Kd.C_alloc ?_ _)|(with_reducible refine Kd.C_drewN ?_ _)|(with_reducible refine Kd.C_drew ?_)));(case side4=>exact Z9.out);(case side5=>repeat (first|exact (Kd.C_below YV.out HB.out)|(with_reducible refine Kd.C_alloc ?_ _)|(with_reducible refine Kd.C_drewN ?_ _)|(with_reducible refine Kd.C_drew ?_)));(case side6=>exact Zd.out);rintro e w34 ⟨rfl,hb⟩;refine ⟨_,rfl,?_⟩;have n0_:=Q1.mk (Qg (g:=ZK) (by (with_reducible repeat (first|refine Q5 ?_ _|refine Q9 ?_|refine Q4 ?_ _));exact Yd.out) hb);have n1_:=Q1.mk (Qi (by repeat (first|(with_reducible first|exact HB.out|apply Q2|apply Q0|apply Q3|refine Q7 ?_ KA.out)|exact HB.out)) hb);clear Yd HB;have Yd:=n0_;have HB:=n1_;clear n0_ n1_;(try clear hb);(try clear hb2);(try clear hk);(try clear hi);have qlO:w34.cell? ⟨ZK,0,none⟩=some (.slice Qy Qa.length Qr):=(Q6 Yd.out 0).trans rfl;have qlP:w34.cell? ⟨ZK,1,none⟩=some (.slice Qv Qe.length Qs):=(Q6 Yd.out 1).trans rfl;have qlQ:w34.cell? ⟨ZK,2,none⟩=some (.slice Qz Qc.length Qt):=(Q6 Yd.out 2).trans rfl;have ql9:=Q8 Yd.out 0;have qma:=Q8 Yd.out 1;have qmb:=Q8 Yd.out 2)|((with_reducible refine Qu (f:=33) rfl ?_);refine Yk (some 51) rfl rfl Try.func33 (by kernel_rfl) rfl #[.agg #[.slice Qy Qa.length Qr,.slice Qv Qe.length Qs,.slice Qz Qc.length Qt],.int .i64 a1] rfl (by (try simp only [List.map_toArray,List.map_cons,List.map_nil]);first|done|rfl|(simp only [List.length_drop,List.length_take];rfl)) ?_;(with_reducible refine (Zl.calls kj4 _ _ Qa _ _ Qe _ _ Qc a1 qfd qfe qff qfg _ ?side1 ?side2 ?side3 ?side4 ?side5 ?side6 A22.out).mono ?_);(case side1=>repeat (first|exact (Kd.C_below Z1.out HB.out)|(with_reducible refine Kd.C_alloc ?_ _)|(with_reducible refine Kd.C_drewN ?_ _)|(with_reducible refine Kd.C_drew ?_)));(case side2=>exact Zh.out);(case side3=>repeat (first|exact (Kd.C_below Z0.out HB.out)|(with_reducible refine Kd.C_alloc ?_ _)|(with_reducible refine Kd.C_drewN ?_ _)|(with_reducible refine Kd.C_drew ?_)));(case side4=>exact Z9.out);(case side5=>repeat (first|exact (Kd.C_below YV.out HB.out)|(with_reducible refine Kd.C_alloc ?_ _)|(with_reducible refine Kd.C_drewN ?_ _)|(with_reducible refine Kd.C_drew ?_)));(case side6=>exact Zd.out);rintro e w36 ⟨rfl,hb⟩;refine ⟨_,rfl,?_⟩;have n0_:=Q1.mk (Qg (g:=ZK) (by (with_reducible repeat (first|refine Q5 ?_ _|refine Q9 ?_|refine Q4 ?_ _));exact Yd.out) hb);have n1_:=Q1.mk (Qi (by repeat (first|(with_reducible first|exact HB.out|apply Q2|apply Q0|apply Q3|refine Q7 ?_ KA.out)|exact HB.out)) hb);clear Yd HB;have Yd:=n0_;have HB:=n1_;clear n0_ n1_;(try clear hb);(try clear hb2);(try clear hk);(try clear hi)))
      go_ret
      exact ⟨by first|rfl|(simp [Qw,Qx]<;>rfl)|(simp [*,Qw,Qx]<;>rfl),by repeat (first|(with_reducible first|exact HB.out|apply Q2|apply Q0|apply Q3|refine Q7 ?_ KA.out)|exact HB.out)⟩
     rw [if_neg c25] at H;have c25b0:(qdT==qff)=false:=beq_eq_false_iff_ne.mpr c25;have c25b1:(qdT != qff)=true:=bne_iff_ne.mpr c25;obtain rfl:=Option.some.inj H;have qgm:wc.cell? ⟨ZK,0,none⟩=some (.slice Qy Qa.length Qr):=(Q6 Yd.out 0).trans rfl;have qgn:wc.cell? ⟨ZK,1,none⟩=some (.slice Qv Qe.length Qs):=(Q6 Yd.out 1).trans rfl;have qgo:wc.cell? ⟨ZK,2,none⟩=some (.slice Qz Qc.length Qt):=(Q6 Yd.out 2).trans rfl;have qgB:=Q8 Yd.out 0;have qgC:=Q8 Yd.out 1;have qgD:=Q8 Yd.out 2
     go_wp2_with (first|((with_reducible refine Qu (f:=32) rfl ?_);refine Yk (some 43) rfl rfl Try.func32 (by kernel_rfl) rfl #[.agg #[.slice Qy Qa.length Qr,.slice Qv Qe.length Qs,.slice Qz Qc.length Qt],.int .i64 a1] rfl (by (try simp only [List.map_toArray,List.map_cons,List.map_nil]);first|done|rfl|(simp only [List.length_drop,List.length_take];rfl)) ?_;(with_reducible refine (Yc.calls kj4 _ _ Qa _ _ Qe _ _ Qc a1 qdR qdS qdT qdU _ ?side1 ?side2 ?side3 ?side4 ?side5 ?side6 A21.out).mono ?_);(case side1=>repeat (first|exact (Kd.C_below Z1.out HB.out)|(with_reducible refine Kd.C_alloc ?_ _)|(with_reducible refine Kd.C_drewN ?_ _)|(with_reducible refine Kd.C_drew ?_)));(case side2=>exact Zh.out);(case side3=>repeat (first|exact (Kd.C_below Z0.out HB.out)|(with_reducible refine Kd.C_alloc ?_ _)|(with_reducible refine Kd.C_drewN ?_ _)|(with_reducible refine Kd.C_drew ?_)));(case side4=>exact Z9.out);(case side5=>repeat (first|exact (Kd.C_below YV.out HB.out)|(with_reducible refine Kd.C_alloc ?_ _)|(with_reducible refine Kd.C_drewN ?_ _)|(with_reducible refine Kd.C_drew ?_)));(case side6=>exact Zd.out);rintro e w38 ⟨rfl,hb⟩;refine ⟨_,rfl,?_⟩;have n0_:=Q1.mk (Qg (g:=ZK) (by (with_reducible repeat (first|refine Q5 ?_ _|refine Q9 ?_|refine Q4 ?_ _));exact Yd.out) hb);have n1_:=Q1.mk (Qi (by repeat (first|(with_reducible first|exact HB.out|apply Q2|apply Q0|apply Q3|refine Q7 ?_ KA.out)|exact HB.out)) hb);clear Yd HB;have Yd:=n0_;have HB:=n1_;clear n0_ n1_;(try clear hb);(try clear hb2);(try clear hk);(try clear hi);have qlR:w38.cell? ⟨ZK,0,none⟩=some (.slice Qy Qa.length Qr):=(Q6 Yd.out 0).trans rfl;have qlS:w38.cell? ⟨ZK,1,none⟩=some (.slice Qv Qe.length Qs):=(Q6 Yd.out 1).trans rfl;have qlT:w38.cell? ⟨ZK,2,none⟩=some (.slice Qz Qc.length Qt):=(Q6 Yd.out 2).trans rfl;have qmc:=Q8 Yd.out 0;have qmd:=Q8 Yd.out 1;have qme:=Q8 Yd.out 2)|((with_reducible refine Qu (f:=33) rfl ?_);refine Yk (some 51) rfl rfl Try.func33 (by kernel_rfl) rfl #[.agg #[.slice Qy Qa.length Qr,.slice Qv Qe.length Qs,.slice Qz Qc.length Qt],.int .i64 a1] rfl (by (try simp only [List.map_toArray,List.map_cons,List.map_nil]);first|done|rfl|(simp only [List.length_drop,List.length_take];rfl)) ?_;(with_reducible refine (Zl.calls kj4 _ _ Qa _ _ Qe _ _ Qc a1 qfd qfe qff qfg _ ?side1 ?side2 ?side3 ?side4 ?side5 ?side6 A22.out).mono ?_);(case side1=>repeat (first|exact (Kd.C_below Z1.out HB.out)|(with_reducible refine Kd.C_alloc ?_ _)|(with_reducible refine Kd.C_drewN ?_ _)|(with_reducible refine Kd.C_drew ?_)));(case side2=>exact Zh.out);(case side3=>repeat (first|exact (Kd.C_below Z0.out HB.out)|(with_reducible refine Kd.C_alloc ?_ _)|(with_reducible refine Kd.C_drewN ?_ _)|(with_reducible refine Kd.C_drew ?_)));(case side4=>exact Z9.out);(case side5=>repeat (first|exact (Kd.C_below YV.out HB.out)|(with_reducible refine Kd.C_alloc ?_ _)|(with_reducible refine Kd.C_drewN ?_ _)|(with_reducible refine Kd.C_drew ?_)));(case side6=>exact Zd.out);rintro e w40 ⟨rfl,hb⟩;refine ⟨_,rfl,?_⟩;have n0_:=Q1.mk (Qg (g:=ZK) (by (with_reducible repeat (first|refine Q5 ?_ _|refine Q9 ?_|refine Q4 ?_ _));exact Yd.out) hb);have n1_:=Q1.mk (Qi (by repeat (first|(with_reducible first|exact HB.out|apply Q2|apply Q0|apply Q3|refine Q7 ?_ KA.out)|exact HB.out)) hb);clear Yd HB;have Yd:=n0_;have HB:=n1_;clear n0_ n1_;(try clear hb);(try clear hb2);(try clear hk);(try clear hi)))
     go_ret
     exact ⟨by first|rfl|(simp [Qw,Qx]<;>rfl)|(simp [*,Qw,Qx]<;>rfl),by repeat (first|(with_reducible first|exact HB.out|apply Q2|apply Q0|apply Q3|refine Q7 ?_ KA.out)|exact HB.out)⟩
    rw [if_neg c24] at H;have c24b0:(qdS==qfe)=false:=beq_eq_false_iff_ne.mpr c24;have c24b1:(qdS != qfe)=true:=bne_iff_ne.mpr c24;obtain rfl:=Option.some.inj H;have qgp:wc.cell? ⟨ZK,0,none⟩=some (.slice Qy Qa.length Qr):=(Q6 Yd.out 0).trans rfl;have qgq:wc.cell? ⟨ZK,1,none⟩=some (.slice Qv Qe.length Qs):=(Q6 Yd.out 1).trans rfl;have qgr:wc.cell? ⟨ZK,2,none⟩=some (.slice Qz Qc.length Qt):=(Q6 Yd.out 2).trans rfl;have qgE:=Q8 Yd.out 0;have qgF:=Q8 Yd.out 1;have qgG:=Q8 Yd.out 2
    go_wp2_with (first|((with_reducible refine Qu (f:=32) rfl ?_);refine Yk (some 43) rfl rfl Try.func32 (by kernel_rfl) rfl #[.agg #[.slice Qy Qa.length Qr,.slice Qv Qe.length Qs,.slice Qz Qc.length Qt],.int .i64 a1] rfl (by (try simp only [List.map_toArray,List.map_cons,List.map_nil]);first|done|rfl|(simp only [List.length_drop,List.length_take];rfl)) ?_;(with_reducible refine (Yc.calls kj4 _ _ Qa _ _ Qe _ _ Qc a1 qdR qdS qdT qdU _ ?side1 ?side2 ?side3 ?side4 ?side5 ?side6 A21.out).mono ?_);(case side1=>repeat (first|exact (Kd.C_below Z1.out HB.out)|(with_reducible refine Kd.C_alloc ?_ _)|(with_reducible refine Kd.C_drewN ?_ _)|(with_reducible refine Kd.C_drew ?_)));(case side2=>exact Zh.out);(case side3=>repeat (first|exact (Kd.C_below Z0.out HB.out)|(with_reducible refine Kd.C_alloc ?_ _)|(with_reducible refine Kd.C_drewN ?_ _)|(with_reducible refine Kd.C_drew ?_)));(case side4=>exact Z9.out);(case side5=>repeat (first|exact (Kd.C_below YV.out HB.out)|(with_reducible refine Kd.C_alloc ?_ _)|(with_reducible refine Kd.C_drewN ?_ _)|(with_reducible refine Kd.C_drew ?_)));(case side6=>exact Zd.out);rintro e w42 ⟨rfl,hb⟩;refine ⟨_,rfl,?_⟩;have n0_:=Q1.mk (Qg (g:=ZK) (by (with_reducible repeat (first|refine Q5 ?_ _|refine Q9 ?_|refine Q4 ?_ _));exact Yd.out) hb);have n1_:=Q1.mk (Qi (by repeat (first|(with_reducible first|exact HB.out|apply Q2|apply Q0|apply Q3|refine Q7 ?_ KA.out)|exact HB.out)) hb);clear Yd HB;have Yd:=n0_;have HB:=n1_;clear n0_ n1_;(try clear hb);(try clear hb2);(try clear hk);(try clear hi);have qra:w42.cell? ⟨ZK,0,none⟩=some (.slice Qy Qa.length Qr):=(Q6 Yd.out 0).trans rfl;have qrb:w42.cell? ⟨ZK,1,none⟩=some (.slice Qv Qe.length Qs):=(Q6 Yd.out 1).trans rfl;have qrc:w42.cell? ⟨ZK,2,none⟩=some (.slice Qz Qc.length Qt):=(Q6 Yd.out 2).trans rfl;have qrO:=Q8 Yd.out 0;have qrP:=Q8 Yd.out 1;have qrQ:=Q8 Yd.out 2)|((with_reducible refine Qu (f:=33) rfl ?_);refine Yk (some 51) rfl rfl Try.func33 (by kernel_rfl) rfl #[.agg #[.slice Qy Qa.length Qr,.slice Qv Qe.length Qs,.slice Qz Qc.length Qt],.int .i64 a1] rfl (by (try simp only [List.map_toArray,List.map_cons,List.map_nil]);first|done|rfl|(simp only [List.length_drop,List.length_take];rfl)) ?_;(with_reducible refine (Zl.calls kj4 _ _ Qa _ _ Qe _ _ Qc a1 qfd qfe qff qfg _ ?side1 ?side2 ?side3 ?side4 ?side5 ?side6 A22.out).mono ?_);(case side1=>repeat (first|exact (Kd.C_below Z1.out HB.out)|(with_reducible refine Kd.C_alloc ?_ _)|(with_reducible refine Kd.C_drewN ?_ _)|(with_reducible refine Kd.C_drew ?_)));(case side2=>exact Zh.out);(case side3=>repeat (first|exact (Kd.C_below Z0.out HB.out)|(with_reducible refine Kd.C_alloc ?_ _)|(with_reducible refine Kd.C_drewN ?_ _)|(with_reducible refine Kd.C_drew ?_)));(case side4=>exact Z9.out);(case side5=>repeat (first|exact (Kd.C_below YV.out HB.out)|(with_reducible refine Kd.C_alloc ?_ _)|(with_reducible refine Kd.C_drewN ?_ _)|(with_reducible refine Kd.C_drew ?_)));(case side6=>exact Zd.out);rintro e w44 ⟨rfl,hb⟩;refine ⟨_,rfl,?_⟩;have n0_:=Q1.mk (Qg (g:=ZK) (by (with_reducible repeat (first|refine Q5 ?_ _|refine Q9 ?_|refine Q4 ?_ _));exact Yd.out) hb);have n1_:=Q1.mk (Qi (by repeat (first|(with_reducible first|exact HB.out|apply Q2|apply Q0|apply Q3|refine Q7 ?_ KA.out)|exact HB.out)) hb);clear Yd HB;have Yd:=n0_;have HB:=n1_;clear n0_ n1_;(try clear hb);(try clear hb2);(try clear hk);(try clear hi)))
    go_ret
    exact ⟨by first|rfl|(simp [Qw,Qx]<;>rfl)|(simp [*,Qw,Qx]<;>rfl),by repeat (first|(with_reducible first|exact HB.out|apply Q2|apply Q0|apply Q3|refine Q7 ?_ KA.out)|exact HB.out)⟩
   rw [if_neg c23] at H
   have c23b0:(qdR==qfd)=false:=beq_eq_false_iff_ne.mpr c23
   have c23b1:(qdR != qfd)=true:=bne_iff_ne.mpr c23
   obtain rfl:=Option.some.inj H
   have qAc:wc.cell? ⟨ZK,0,none⟩=some (.slice Qy Qa.length Qr):=(Q6 Yd.out 0).trans rfl
   have qAd:wc.cell? ⟨ZK,1,none⟩=some (.slice Qv Qe.length Qs):=(Q6 Yd.out 1).trans rfl
   have qAe:wc.cell? ⟨ZK,2,none⟩=some (.slice Qz Qc.length Qt):=(Q6 Yd.out 2).trans rfl
   have qB1:=Q8 Yd.out 0
   have qB2:=Q8 Yd.out 1
   have qB3:=Q8 Yd.out 2
   go_wp2_with (first|((with_reducible refine Qu (f:=32) rfl ?_);refine Yk (some 43) rfl rfl Try.func32 (by kernel_rfl) rfl #[.agg #[.slice Qy Qa.length Qr,.slice Qv Qe.length Qs,.slice Qz Qc.length Qt],.int .i64 a1] rfl (by (try simp only [List.map_toArray,List.map_cons,List.map_nil]);first|done|rfl|(simp only [List.length_drop,List.length_take];rfl)) ?_;(with_reducible refine (Yc.calls kj4 _ _ Qa _ _ Qe _ _ Qc a1 qdR qdS qdT qdU _ ?side1 ?side2 ?side3 ?side4 ?side5 ?side6 A21.out).mono ?_);(case side1=>repeat (first|exact (Kd.C_below Z1.out HB.out)|(with_reducible refine Kd.C_alloc ?_ _)|(with_reducible refine Kd.C_drewN ?_ _)|(with_reducible refine Kd.C_drew ?_)));(case side2=>exact Zh.out);(case side3=>repeat (first|exact (Kd.C_below Z0.out HB.out)|(with_reducible refine Kd.C_alloc ?_ _)|(with_reducible refine Kd.C_drewN ?_ _)|(with_reducible refine Kd.C_drew ?_)));(case side4=>exact Z9.out);(case side5=>repeat (first|exact (Kd.C_below YV.out HB.out)|(with_reducible refine Kd.C_alloc ?_ _)|(with_reducible refine Kd.C_drewN ?_ _)|(with_reducible refine Kd.C_drew ?_)));(case side6=>exact Zd.out);rintro e w46 ⟨rfl,hb⟩;refine ⟨_,rfl,?_⟩;have n0_:=Q1.mk (Qg (g:=ZK) (by (with_reducible repeat (first|refine Q5 ?_ _|refine Q9 ?_|refine Q4 ?_ _));exact Yd.out) hb);have n1_:=Q1.mk (Qi (by repeat (first|(with_reducible first|exact HB.out|apply Q2|apply Q0|apply Q3|refine Q7 ?_ KA.out)|exact HB.out)) hb);clear Yd HB;have Yd:=n0_;have HB:=n1_;clear n0_ n1_;(try clear hb);(try clear hb2);(try clear hk);(try clear hi);have qAf:w46.cell? ⟨ZK,0,none⟩=some (.slice Qy Qa.length Qr):=(Q6 Yd.out 0).trans rfl;have qAg:w46.cell? ⟨ZK,1,none⟩=some (.slice Qv Qe.length Qs):=(Q6 Yd.out 1).trans rfl;have qAh:w46.cell? ⟨ZK,2,none⟩=some (.slice Qz Qc.length Qt):=(Q6 Yd.out 2).trans rfl;have qB4:=Q8 Yd.out 0;have qB5:=Q8 Yd.out 1;have qB6:=Q8 Yd.out 2)|((with_reducible refine Qu (f:=33) rfl ?_);refine Yk (some 51) rfl rfl Try.func33 (by kernel_rfl) rfl #[.agg #[.slice Qy Qa.length Qr,.slice Qv Qe.length Qs,.slice Qz Qc.length Qt],.int .i64 a1] rfl (by (try simp only [List.map_toArray,List.map_cons,List.map_nil]);first|done|rfl|(simp only [List.length_drop,List.length_take];rfl)) ?_;(with_reducible refine (Zl.calls kj4 _ _ Qa _ _ Qe _ _ Qc a1 qfd qfe qff qfg _ ?side1 ?side2 ?side3 ?side4 ?side5 ?side6 A22.out).mono ?_);(case side1=>repeat (first|exact (Kd.C_below Z1.out HB.out)|(with_reducible refine Kd.C_alloc ?_ _)|(with_reducible refine Kd.C_drewN ?_ _)|(with_reducible refine Kd.C_drew ?_)));(case side2=>exact Zh.out);(case side3=>repeat (first|exact (Kd.C_below Z0.out HB.out)|(with_reducible refine Kd.C_alloc ?_ _)|(with_reducible refine Kd.C_drewN ?_ _)|(with_reducible refine Kd.C_drew ?_)));(case side4=>exact Z9.out);(case side5=>repeat (first|exact (Kd.C_below YV.out HB.out)|(with_reducible refine Kd.C_alloc ?_ _)|(with_reducible refine Kd.C_drewN ?_ _)|(with_reducible refine Kd.C_drew ?_)));(case side6=>exact Zd.out);rintro e w48 ⟨rfl,hb⟩;refine ⟨_,rfl,?_⟩;have n0_:=Q1.mk (Qg (g:=ZK) (by (with_reducible repeat (first|refine Q5 ?_ _|refine Q9 ?_|refine Q4 ?_ _));exact Yd.out) hb);have n1_:=Q1.mk (Qi (by repeat (first|(with_reducible first|exact HB.out|apply Q2|apply Q0|apply Q3|refine Q7 ?_ KA.out)|exact HB.out)) hb);clear Yd HB;have Yd:=n0_;have HB:=n1_;clear n0_ n1_;(try clear hb);(try clear hb2);(try clear hk);(try clear hi)))
   go_ret
   exact ⟨by first|rfl|(simp [Qw,Qx]<;>rfl)|(simp [*,Qw,Qx]<;>rfl),by repeat (first|(with_reducible first|exact HB.out|apply Q2|apply Q0|apply Q3|refine Q7 ?_ KA.out)|exact HB.out)⟩
end
end Go.Proofs.Ytmhomdohhihlcaa.P
namespace Go.Proofs.Ytmhomdohhihlcaa.P
open Go.RowKit Go.ChangeShapes Go.WideShapes Go.Proofs.YtmhomdohhihlcaaW.PrintWords Go.Proofs.YtmhomdohhihlcaaW.PrintLast Go.Proofs.YtmhomdohhihlcaaW.PrintMore
def qas {α:Type} (d:Kd α) (t:TypeId) (p:α→Prop):Prop:=∀ (H:Type) (enc:TypeId × Value→H) (w:World) (fuel:Nat) (cs:List Value) (x:DataW H × List MemPlace),
 DataW.trod enc Try.prog w 0 (fun _=>true) true fuel t cs=some x → ∃ a,d.K w a cs∧p a
def Wf (n:Int):Prop:=(Lit.int .i64 n).wf=true
theorem qnO:qas (Kd.int .i64) 3 Wf:=fun H enc w fuel cs x h=>by
 obtain ⟨n,rfl,_,hw⟩:=DataW.trod_int Try.underlying3 h
 exact ⟨n,rfl,hw⟩
theorem WY {α:Type} {d:Kd α} {e e' t:TypeId} {p:α→Prop} (h:qas d e p) (ht:Try.prog.underlying t=some (.slice e)) (hc:Try.prog.cellsOf e=d.sz):qas (Kd.slice e' d) t (fun xs => ∀ x∈xs,p x):=fun H enc w fuel cs x hf=>by
 rcases Deep.open_slice ht hf with ⟨rfl,_⟩|⟨a,len,cap,m,n,D,Pl,rfl,_,hl,hm,hmm,_,hx⟩
 ·
  exact ⟨[],⟨none,0,rfl,Nat.le_refl _,Kd.C_nil d w⟩,fun x hx=>by simp at hx⟩
 ·
  have each:∀ i,i<len → ∃ z:α,(∃ c,c.length=d.sz∧d.K w z c ∧ ∀ j u,c[j]? = some u→w.cell? (a.add (i*d.sz+j))=some u)∧p z:=fun i hi=>by
   obtain ⟨cs',h1,h2⟩:=hx i (by simp only [if_true] at hmm;omega)
   obtain ⟨z,hz,hp⟩:=h H enc w n cs' _ h2
   obtain ⟨_,hcl,hat⟩:=World.cells?_some h1
   refine ⟨z,⟨cs',d.K_len hz,hz,fun j u hu => ?_⟩,hp⟩
   have hj:j<cs'.length:=(List.getElem?_eq_some_iff.1 hu).1
   rw [d.K_len hz] at hj
   have hj':j<Try.prog.cellsOf e:=by rw [hc];exact hj
   have h3:=hat j hj'
   rw [Deep.add_add,hc] at h3
   rw [h3]
   exact hu
  by_cases h0:len=0
  ·
   subst h0
   exact ⟨[],⟨some a,cap,rfl,by simp,⟨rfl,by simp,fun hh=>by simp at hh⟩⟩,fun x hx=>by simp at hx⟩
  ·
   obtain ⟨z0,_⟩:=each 0 (by omega)
   have inst:Inhabited α:=⟨z0⟩
   obtain ⟨f,hfz⟩:=Deep.choose_lt each
   have hmx:cap≤9223372036854775807:=by unfold maxLen at hm;omega
   refine ⟨(List.range len).map f,⟨some a,cap,by simp,by simpa using hl,⟨rfl,by simp;omega,fun _=>⟨a,rfl,fun j q hj => ?_⟩⟩⟩,fun x hx => ?_⟩
   ·
    have hj2:j<len:=by have:=(List.getElem?_eq_some_iff.1 hj).1;simpa using this
    rw [List.getElem?_map,List.getElem?_range hj2] at hj
    injection hj with hj
    subst hj;obtain ⟨c,c1,c2,c3⟩:=(hfz j hj2).1
    exact ⟨c,c1,c2,c3⟩
   ·
    obtain ⟨i,hi,rfl⟩:=List.mem_map.1 hx
    exact (hfz i (List.mem_range.1 hi)).2
theorem c3:Try.prog.cellsOf 3=1:=by kernel_rfl
theorem c25:Try.prog.cellsOf 25=2:=by kernel_rfl
theorem c37:Try.prog.cellsOf 37=1:=by kernel_rfl
theorem c32:Try.prog.cellsOf 32=1:=by kernel_rfl
theorem c63:Try.prog.cellsOf 63=1:=by kernel_rfl
theorem c44:Try.prog.cellsOf 44=1:=by kernel_rfl
theorem c45:Try.prog.cellsOf 45=1:=by kernel_rfl
theorem c39:Try.prog.cellsOf 39=5:=by kernel_rfl
theorem c47:Try.prog.cellsOf 47=3:=by kernel_rfl
theorem c23:Try.prog.cellsOf 23=2:=by kernel_rfl
theorem qGT {α:Type} {l:List α} (h:l.length=3):∃ a b c,l=[a,b,c]:=by
 match l,h with
 | [a,b,c],_=>exact ⟨a,b,c,rfl⟩
theorem qGU {α:Type} {l:List α} (h:l.length=5):∃ a b c d e,l=[a,b,c,d,e]:=by
 match l,h with
 | [a,b,c,d,e],_=>exact ⟨a,b,c,d,e,rfl⟩
theorem X1 {α:Type} {l:List α} {i:Nat} {o:Option α} (hi:i<l.length) (h:o=l[i]?):∃ y,o=some y:=⟨l[i],by rw [h,List.getElem?_eq_getElem hi]⟩
def WL (l:List Int):Prop:=∀ x∈l,Wf x
def W39 (s:S39):Prop:=WL s.f0∧WL s.f1∧WL s.f2∧Wf s.f3∧Wf s.f4
theorem WB:qas (Kd.slice 3 (Kd.int .i64)) 37 WL:=WY qnO Try.underlying37 c3
theorem qpF:qas k39 39 W39:=fun H enc w fuel cs x h=>by
 obtain ⟨xs,n,_,_,hl,hxl,hf⟩:=DataW.trod_struct Try.underlying39 h
 rw [c39] at hl
 obtain ⟨a,b,c,d,e,rfl⟩:=qGU hl
 have h0:DataW.trod enc Try.prog w 0 (fun _=>true) true n 37 (([a,b,c,d,e].drop 0).take (Try.prog.cellsOf 37))=xs[0]?:=hf 0 _ rfl
 have h1:DataW.trod enc Try.prog w 0 (fun _=>true) true n 37 (([a,b,c,d,e].drop 1).take (Try.prog.cellsOf 37))=xs[1]?:=hf 1 _ rfl
 have h2:DataW.trod enc Try.prog w 0 (fun _=>true) true n 37 (([a,b,c,d,e].drop 2).take (Try.prog.cellsOf 37))=xs[2]?:=hf 2 _ rfl
 have h3:DataW.trod enc Try.prog w 0 (fun _=>true) true n 3 (([a,b,c,d,e].drop 3).take (Try.prog.cellsOf 3))=xs[3]?:=hf 3 _ rfl
 have h4:DataW.trod enc Try.prog w 0 (fun _=>true) true n 3 (([a,b,c,d,e].drop 4).take (Try.prog.cellsOf 3))=xs[4]?:=hf 4 _ rfl
 rw [c37] at h0 h1 h2
 rw [c3] at h3 h4
 have hx2:xs.length=5:=hxl
 obtain ⟨y0,e0⟩:=X1 (by omega) h0
 obtain ⟨y1,e1⟩:=X1 (by omega) h1
 obtain ⟨y2,e2⟩:=X1 (by omega) h2
 obtain ⟨y3,e3⟩:=X1 (by omega) h3
 obtain ⟨y4,e4⟩:=X1 (by omega) h4
 obtain ⟨l0,⟨A0,d0,q0,z0,k0⟩,g0⟩:=WB H enc w n _ _ e0
 obtain ⟨l1,⟨A1,d1,q1,z1,k1⟩,g1⟩:=WB H enc w n _ _ e1
 obtain ⟨l2,⟨A2,d2,q2,z2,k2⟩,g2⟩:=WB H enc w n _ _ e2
 obtain ⟨n3,q3,_,g3⟩:=DataW.trod_int Try.underlying3 e3
 obtain ⟨n4,q4,_,g4⟩:=DataW.trod_int Try.underlying3 e4
 replace q0:[a]=[Value.slice A0 l0.length d0]:=q0
 replace q1:[b]=[Value.slice A1 l1.length d1]:=q1
 replace q2:[c]=[Value.slice A2 l2.length d2]:=q2
 replace q3:[d]=[Value.int .i64 n3]:=q3
 replace q4:[e]=[Value.int .i64 n4]:=q4
 injection q0 with q0
 injection q1 with q1
 injection q2 with q2
 injection q3 with q3
 injection q4 with q4
 subst q0 q1 q2 q3 q4
 exact ⟨⟨l0,l1,l2,n3,n4⟩,qpo w ⟨l0,l1,l2,n3,n4⟩ z0 k0 z1 k1 z2 k2,g0,g1,g2,g3,g4⟩
theorem qkN:qas (Kd.slice 37 (Kd.slice 3 (Kd.int .i64))) 63 (fun l => ∀ x∈l,WL x):=WY WB Try.underlying63 c37
theorem qfu:qas (Kd.slice 63 (Kd.slice 37 (Kd.slice 3 (Kd.int .i64)))) 45 (fun l => ∀ x∈l,∀ y∈x,WL y):=WY qkN Try.underlying45 c63
theorem qi5:qas (Kd.slice 39 k39) 44 (fun l => ∀ x∈l,W39 x):=WY qpF Try.underlying44 c39
section
variable {H:Type} {enc:TypeId × Value→H} {W:World} {d:DataW H} {ps:List MemPlace}
theorem quu {cs:Array Value} (h:DataW.Trod enc Try.prog W 0 (fun _=>true) true 47 (.agg cs) d ps):∃ (A0 A1 A2:Option Addr) (c0 c1 c2:Nat) (l0:List S39) (l1:List Int) (l2:List (List (List Int))),cs=#[.slice A0 l0.length c0,.slice A1 l1.length c1,.slice A2 l2.length c2] ∧
  l0.length≤c0∧Kd.C k39 W A0 l0.length l0∧l1.length≤c1∧Kd.C (Kd.int .i64) W A1 l1.length l1∧l2.length≤c2∧Kd.C (Kd.slice 37 (Kd.slice 3 (Kd.int .i64))) W A2 l2.length l2∧(∀ x∈l0,W39 x)∧WL l1∧(∀ x∈l2,∀ y∈x,WL y):=by
 obtain ⟨fuel,hf⟩:=h
 replace hf:DataW.trod enc Try.prog W 0 (fun _=>true) true fuel 47 cs.toList=some (d,ps):=hf
 obtain ⟨xs,n,_,_,hl,hxl,hff⟩:=DataW.trod_struct Try.underlying47 hf
 rw [c47] at hl
 obtain ⟨a,b,c,hcs⟩:=qGT hl
 rw [hcs] at hff
 have h0:DataW.trod enc Try.prog W 0 (fun _=>true) true n 44 (([a,b,c].drop 0).take (Try.prog.cellsOf 44))=xs[0]?:=hff 0 _ rfl
 have h1:DataW.trod enc Try.prog W 0 (fun _=>true) true n 37 (([a,b,c].drop 1).take (Try.prog.cellsOf 37))=xs[1]?:=hff 1 _ rfl
 have h2:DataW.trod enc Try.prog W 0 (fun _=>true) true n 45 (([a,b,c].drop 2).take (Try.prog.cellsOf 45))=xs[2]?:=hff 2 _ rfl
 rw [c44] at h0
 rw [c37] at h1
 rw [c45] at h2
 have hx2:xs.length=3:=hxl
 obtain ⟨y0,e0⟩:=X1 (by omega) h0
 obtain ⟨y1,e1⟩:=X1 (by omega) h1
 obtain ⟨y2,e2⟩:=X1 (by omega) h2
 obtain ⟨l0,⟨A0,d0,q0,z0,k0⟩,g0⟩:=qi5 H enc W n _ _ e0
 obtain ⟨l1,⟨A1,d1,q1,z1,k1⟩,g1⟩:=WB H enc W n _ _ e1
 obtain ⟨l2,⟨A2,d2,q2,z2,k2⟩,g2⟩:=qfu H enc W n _ _ e2
 replace q0:[a]=[Value.slice A0 l0.length d0]:=q0
 replace q1:[b]=[Value.slice A1 l1.length d1]:=q1
 replace q2:[c]=[Value.slice A2 l2.length d2]:=q2
 injection q0 with q0
 injection q1 with q1
 injection q2 with q2
 subst q0 q1 q2
 exact ⟨A0,A1,A2,d0,d1,d2,l0,l1,l2,Array.toList_inj.1 hcs,z0,k0,z1,k1,z2,k2,g0,g1,g2⟩
end
end Go.Proofs.Ytmhomdohhihlcaa.P
namespace Go.Proofs.Ytmhomdohhihlcaa.P
open Go.RowKit Go.Proofs.YtmhomdohhihlcaaW.PrintWords Go.Proofs.YtmhomdohhihlcaaW.PrintLast Go.Proofs.YtmhomdohhihlcaaW.PrintMore
section
theorem qdX {α:Type} {d:Kd α} {w:World} {A:Option Addr} {n:Nat} {xs:List α} (h:d.C w A n xs):xs.length≤9223372036854775807:=by
 obtain ⟨h1,h2,_⟩:=h
 omega
theorem qs3 {α:Type} {d:Kd α} {w:World} {A:Option Addr} {xs:List α} (h:d.C w A xs.length xs) {x:α} (hx:x∈xs):∃ c,d.K w x c:=by
 obtain ⟨i,hi,rfl⟩:=List.getElem_of_mem hx
 obtain ⟨ad,c,e,_,hK,_⟩:=Kd.C_get h xs[i] (i:Int) (by omega) (by omega)
 refine ⟨c,?_⟩
 have:xs.getD ((i:Int)).toNat xs[i]=xs[i]:=by simp [List.getD_eq_getElem?_getD,List.getElem?_eq_getElem hi]
 rw [this] at hK
 exact hK
def LB2 (l:List (List Int)):Prop:=l.length≤9223372036854775807 ∧ ∀ r∈l,r.length≤9223372036854775807
def LB (l:List (List (List Int))):Prop:=l.length≤9223372036854775807 ∧ ∀ s∈l,LB2 s
theorem qkQ {w:World} {A:Option Addr} {l:List (List Int)} (h:Kd.C (Kd.slice 3 (Kd.int .i64)) w A l.length l):LB2 l:=by
 refine ⟨qdX h,fun r hr => ?_⟩
 obtain ⟨c,A1,c1,_,_,h1⟩:=qs3 h hr
 exact qdX h1
theorem qfx {w:World} {A:Option Addr} {l:List (List (List Int))} (h:Kd.C (Kd.slice 37 (Kd.slice 3 (Kd.int .i64))) w A l.length l):LB l:=by
 refine ⟨qdX h,fun r hr => ?_⟩
 obtain ⟨c,A1,c1,_,_,h1⟩:=qs3 h hr
 exact qkQ h1
end
section
attribute [local go_sem] YC YE Z2 Z3 Yr Ys YD YF
end
section
attribute [local go_sem] YC YE Z2 Z3 Yr Ys YD YF
end
section
attribute [local go_sem] YC YE Z2 Z3 Yr Ys YD YF
end
section
attribute [local go_sem] YC YE Z2 Z3 Yr Ys YD YF
end
section
attribute [local go_sem] YC YE Z2 Z3 Yr Ys YD YF
attribute [local go_sem high] qoR
end
section
theorem GC (a b c:Int):Qn.f a b c=some (wi a b c):=by
 unfold Qn.f wi
 by_cases h:b≤a
 ·
  rw [if_pos h];simp [h]
 ·
  rw [if_neg h];simp [h]
theorem qaJ (a b c:Int):Qq.f a b c=some (wi a b c):=by
 unfold Qq.f wi
 by_cases h:b≤a
 ·
  rw [if_pos h];simp [h]
 ·
  rw [if_neg h];simp [h]
def sp (a b h:Int):Bool:=decide (0≤a∧a≤b∧b≤h)
theorem wr1 (i n:Nat) (h:i<n) (hn:(n:Int)≤9223372036854775807):wrap64 ((i:Int)+1)=((i+1:Nat):Int):=by unfold wrap64;omega
end
section
theorem rdI (l:List Int) (i:Nat) (h:i<l.length):rd l (i:Int)=l[i]:=by simp [rd,List.getD_eq_getElem?_getD,List.getElem?_eq_getElem h]
def vR (l0 l1 l2:List Int) (i:Nat):Bool:=wi (rd l0 i) 0 100000&&wi (rd l1 i) 0 1000&&wi (rd l2 i) 0 100
def aR (l0 l1 l2:List Int):Nat→Nat→Bool
 | 0,_=>true
 | d+1,i=>vR l0 l1 l2 i&&aR l0 l1 l2 d (i+1)
def isR (l0 l1 l2:List Int) (a3 a4:Int):Bool :=
 (wi (l0.length:Int) 1 6&&decide (l1.length=l0.length)&&decide (l2.length=l0.length)&&wi a3 0 100000000&&wi a4 0 ((l0.length:Int)-1))&&aR l0 l1 l2 l0.length 0
theorem qtI {l0 l1 l2:List Int}:∀ (d i:Nat),aR l0 l1 l2 d i=true → ∀ j,i≤j→j<i+d→vR l0 l1 l2 j=true
 | 0,i,_,j,h1,h2=>by omega
 | d+1,i,h,j,h1,h2=>by
  rw [aR,Bool.and_eq_true] at h
  by_cases hj:j=i
  ·
   rw [hj];exact h.1
  ·
   exact qtI d (i+1) h.2 j (by omega) (by omega)
theorem qpn {l0 l1 l2:List Int} {a3 a4:Int} (h:isR l0 l1 l2 a3 a4=true):okR l0 l1 l2 a4∧wi a3 0 100000000=true ∧ ∀ i,i<l0.length→vR l0 l1 l2 i=true:=by
 unfold isR at h
 simp only [Bool.and_eq_true,decide_eq_true_eq] at h
 obtain ⟨⟨⟨⟨⟨h1,h2⟩,h3⟩,h4⟩,h5⟩,h6⟩:=h
 have g1:=Uf.1 h1
 have g5:=Uf.1 h5
 exact ⟨⟨by omega,by omega,h2,h3,by omega,by omega⟩,h4,fun i hi=>qtI _ _ h6 i (by omega) (by omega)⟩
section
variable (l0 l1 l2:List Int) (a3 a4:Int)
theorem qg8:∀ (d i:Nat) (b:Bool),i+d=l0.length→(b=true→l1.length=l0.length∧l2.length=l0.length∧l0.length≤6)→Ev (fun k=>Qh.l0 k (l0.length:Int) b (i:Int) l0 l1 l2 a3 a4) (b&&aR l0 l1 l2 d i):=by
 intro d
 induction d with
 | zero =>
  intro i b hi hb
  rw [aR,Bool.and_true]
  refine Ev.step (f:=fun k=>Qh.j2 k (l0.length:Int) b (i:Int) false l0 l1 l2 a3 a4) (fun k => ?_) (Ev.step (f:=fun _=>some b) (fun k => ?_) (Ev.now _))
  ·
   simp only [Qh.l0]
   rw [decide_eq_false (by omega:¬ (i:Int)<(l0.length:Int))]
   cases b<;>rfl
  ·
   simp [Qh.j2]
 | succ d ih =>
  intro i b hi hb
  cases b with
  | false =>
   rw [Bool.false_and]
   refine Ev.step (f:=fun k=>Qh.j2 k (l0.length:Int) false (i:Int) false l0 l1 l2 a3 a4) (fun k => ?_) (Ev.step (f:=fun _=>some false) (fun k => ?_) (Ev.now _))
   ·
    simp [Qh.l0]
   ·
    simp [Qh.j2]
  | true =>
   obtain ⟨b1,b2,b3⟩:=hb rfl
   have hlt:i<l0.length:=by omega
   rw [Bool.true_and,aR]
   refine Ev.step (f:=fun k=>Qh.j2 k (l0.length:Int) true (i:Int) true l0 l1 l2 a3 a4) (fun k => ?_) ?_
   ·
    simp only [Qh.l0];rw [decide_eq_true (by omega:(i:Int)<(l0.length:Int))]
    rfl
   ·
    refine Ev.step (f:=fun k=>Qh.l0 k (l0.length:Int) (vR l0 l1 l2 i) ((i+1:Nat):Int) l0 l1 l2 a3 a4) (fun k => ?_) (ih (i+1) _ (by omega) (fun _=>⟨b1,b2,b3⟩));have hw:=wr1 i l0.length hlt (by omega);simp only [Qh.j2,GC,Option.bind_some,hw];rw [if_pos trivial,if_pos (by omega),if_pos (by omega)];unfold vR
    cases h1:wi (rd l0 i) 0 100000 with
    | false=>simp
    | true =>
     rw [if_pos rfl,if_pos (by omega)]
     cases h2:wi (rd l1 i) 0 1000 with
     | false=>simp
     | true=>rw [if_pos rfl,if_pos (by omega)];simp
theorem qfS:Ev (fun k=>Qh.f k l0 l1 l2 a3 a4) (isR l0 l1 l2 a3 a4):=by
 have H:∀ b:Bool,(b=true→l1.length=l0.length∧l2.length=l0.length∧l0.length≤6)→Ev (fun k=>Qh.j0 k (l0.length:Int) b l0 l1 l2 a3 a4) (b&&aR l0 l1 l2 l0.length 0):=fun b hb =>
  Ev.step (f:=fun k=>Qh.l0 k (l0.length:Int) b ((0:Nat):Int) l0 l1 l2 a3 a4) (fun k=>by simp [Qh.j0]) (qg8 l0 l1 l2 a3 a4 l0.length 0 b (by omega) hb)
 have HF:=H false (fun h=>by simp at h)
 unfold isR
 simp only [Qh.f,GC,Option.bind_some]
 cases h1:wi (l0.length:Int) 1 6 with
 | false=>simpa using HF
 | true =>
  have g1:=Uf.1 h1
  have hw:wrap64 ((l0.length:Int)-1)=(l0.length:Int)-1:=by unfold wrap64;omega
  by_cases h2:l1.length=l0.length
  ·
   by_cases h3:l2.length=l0.length
   ·
    cases h4:wi a3 0 100000000 with
    | false=>simpa [h2,h3] using HF
    | true =>
     simp only [h2,h3,hw,if_true,decide_true,Bool.true_and,Bool.and_true]
     exact H _ (fun _=>⟨h2,h3,by omega⟩)
   ·
    have h3':¬ (l2.length:Int)=(l0.length:Int):=by omega
    simpa [h2,h3,h3'] using HF
  ·
   have h2':¬ (l1.length:Int)=(l0.length:Int):=by omega
   simpa [h2,h2'] using HF
end
theorem qe5 (l0 l1 l2:List Int) (a3 a4:Int):∀ k,(∀ n b,Qm.j0 k n b l0 l1 l2 a3 a4=Qh.j0 k n b l0 l1 l2 a3 a4)∧(∀ n b i,Qm.l0 k n b i l0 l1 l2 a3 a4=Qh.l0 k n b i l0 l1 l2 a3 a4)∧(∀ n b i c,Qm.j2 k n b i c l0 l1 l2 a3 a4=Qh.j2 k n b i c l0 l1 l2 a3 a4)
 | 0=>⟨fun _ _=>rfl,fun _ _ _=>rfl,fun _ _ _ _=>rfl⟩
 | k+1=>by
  obtain ⟨h1,h2,h3⟩:=qe5 l0 l1 l2 a3 a4 k
  refine ⟨fun n b => ?_,fun n b i => ?_,fun n b i c => ?_⟩
  ·
   simp only [Qm.j0,Qh.j0,h2]
  ·
   simp only [Qm.l0,Qh.l0,h3]
  ·
   simp only [Qm.j2,Qh.j2,h2,qaJ,GC]
theorem qsA (l0 l1 l2:List Int) (a3 a4:Int):Ev (fun k=>Qm.f k l0 l1 l2 a3 a4) (isR l0 l1 l2 a3 a4):=by
 refine Ev.congr (fun k => ?_) (qfS l0 l1 l2 a3 a4)
 simp only [Qm.f,Qh.f,(qe5 l0 l1 l2 a3 a4 k).1,qaJ,GC]
section
variable (l0 l1 l2:List Int) (a3 a4:Int)
theorem qdr (n:List Int) (m j:Nat) (x:Int):(n.set j x).take m=(n.take m).set j x:=List.take_set
theorem qcU (n:List Int) (m i:Nat) (h:i<m):rd (n.take m) (i:Int)=rd n (i:Int):=by
 simp [rd,List.getD_eq_getElem?_getD,List.getElem?_take,h]
theorem qni (m:Nat) (hm:m≤6) (h4:0≤a4):∀ (j:Nat) (n:List Int) (t:Int),n.length=6→j≤m→Ev (fun k=>Yl.l0 k t (n.take m) ((j:Int)-1) l0 l1 l2 a3 a4) ((KU a4 j n t).1.take m):=by
 intro j
 induction j with
 | zero =>
  intro n t hn hj
  refine Ev.step (f:=fun _=>some (n.take m)) (fun k => ?_) (Ev.now _)
  simp only [Yl.l0]
  rw [if_neg (by omega)]
 | succ j ih =>
  intro n t hn hj
  have hl:(n.take m).length=m:=by rw [List.length_take];omega
  have e1:((j+1:Nat):Int)-1=(j:Int):=by omega
  rw [e1,KU]
  by_cases hq:a4≤(j:Int)
  ·
   rw [if_pos hq]
   refine Ev.step (f:=fun k=>Yl.l0 k (wrap64 (t-mn (rd n j) t)) ((n.set j (wrap64 (rd n j-mn (rd n j) t))).take m) ((j:Int)-1) l0 l1 l2 a3 a4) (fun k => ?_) (ih _ _ (by simpa using hn) (by omega))
   have hw:wrap64 ((j:Int)-1)=(j:Int)-1:=by unfold wrap64;omega
   simp only [Yl.l0]
   rw [if_pos (by omega),if_pos (by omega),if_pos (by omega),hw,qcU n m j (by omega),qdr,Int.toNat_natCast]
  ·
   rw [if_neg hq]
   refine Ev.step (f:=fun _=>some (n.take m)) (fun k => ?_) (Ev.now _)
   simp only [Yl.l0]
   rw [if_neg (by omega)]
theorem qnh (m:Nat) (hm:m≤6) (h4:0≤a4) (n:List Int) (t:Int) (hn:n.length=6):Ev (fun k=>Yl.f k l0 l1 l2 a3 a4 (n.take m) t) ((KU a4 m n t).1.take m):=by
 have hl:(n.take m).length=m:=by rw [List.length_take];omega
 refine Ev.congr (fun k => ?_) (qni l0 l1 l2 a3 a4 m hm h4 m n t hn (by omega))
 have hw:wrap64 ((m:Int)-1)=(m:Int)-1:=by unfold wrap64;omega
 simp only [Yl.f,Option.bind_some,List.nil_append,hl,hw,List.length_nil]
 rw [if_pos (by omega)]
theorem qje (m:Nat) (hm:m≤6) (h2:l2.length=m) (n:List Int) (hn:n.length=6):∀ (d i:Nat) (s:Int),i+d=m→Ev (fun k=>Yp.l0 k (n.take m) s (i:Int) l0 l1 l2 a3 a4) (((K0 n l2 m).drop i).foldl (fun s x=>wrap64 (s+x)) s):=by
 have hl:(n.take m).length=m:=by rw [List.length_take];omega
 have hy:(K0 n l2 m).length=m:=by simp [K0]
 intro d
 induction d with
 | zero =>
  intro i s hi
  refine Ev.step (f:=fun _=>some s) (fun k => ?_) ?_
  ·
   simp only [Yp.l0,hl]
   rw [if_neg (by omega)]
  ·
   rw [List.drop_eq_nil_of_le (by omega)]
   exact Ev.now _
 | succ d ih =>
  intro i s hi
  have hlt:i<(K0 n l2 m).length:=by omega
  rw [List.drop_eq_getElem_cons hlt,List.foldl_cons]
  have he:(K0 n l2 m)[i]=wrap64 (rd n i*rd l2 i):=by simp [K0]
  rw [he]
  refine Ev.step (f:=fun k=>Yp.l0 k (n.take m) (wrap64 (s+wrap64 (rd n i*rd l2 i))) ((i+1:Nat):Int) l0 l1 l2 a3 a4) (fun k => ?_) (ih (i+1) _ (by omega))
  have hw:=wr1 i m (by omega) (by omega)
  simp only [Yp.l0,hl,hw,h2]
  rw [if_pos (by omega),if_pos (by omega),if_pos (by omega),qcU n m i (by omega)]
theorem qjd (m:Nat) (hm:m≤6) (h2:l2.length=m) (n:List Int) (hn:n.length=6):Ev (fun k=>Yp.f k l0 l1 l2 a3 a4 (n.take m)) (sumW (K0 n l2 m)):=by
 have h:=qje l0 l1 l2 a3 a4 m hm h2 n hn m 0 0 (by omega)
 exact h
theorem qn5 (m:Nat) (h0:1≤m) (hm:m≤6) (h1:l1.length=m) (n:List Int) (hn:n.length=6) (r:Int):∀ (d i:Nat),i+d=m→Ev (fun k=>QO.l0 k (n.take m) r ((GU ((m:Int)-1) n l1 i).take m) (i:Int) l0 l1 l2 a3 a4)
  (((GU ((m:Int)-1) n l1 m).set 0 (wrap64 (rd (GU ((m:Int)-1) n l1 m) 0+r))).take m):=by
 have hl:(n.take m).length=m:=by rw [List.length_take];omega
 intro d
 induction d with
 | zero =>
  intro i hi
  obtain rfl:i=m:=by omega
  have hy:((GU ((i:Int)-1) n l1 i).take i).length=i:=by rw [List.length_take,Wq];omega
  have hr:=qcU (GU ((i:Int)-1) n l1 i) i 0 (by omega)
  refine Ev.step (f:=fun _=>some (((GU ((i:Int)-1) n l1 i).set 0 (wrap64 (rd (GU ((i:Int)-1) n l1 i) 0+r))).take i)) (fun k => ?_) (Ev.now _)
  simp only [QO.l0,hl,hy]
  rw [if_neg (by omega),if_pos (by omega),qdr]
  have hr':rd ((GU ((i:Int)-1) n l1 i).take i) 0=rd (GU ((i:Int)-1) n l1 i) 0:=hr
  rw [hr']
  rfl
 | succ d ih =>
  intro i hi
  have hy:((GU ((m:Int)-1) n l1 i).take m).length=m:=by rw [List.length_take,Wq];omega
  refine Ev.step (f:=fun k=>QO.l0 k (n.take m) r ((GU ((m:Int)-1) n l1 (i+1)).take m) ((i+1:Nat):Int) l0 l1 l2 a3 a4) (fun k => ?_) (ih (i+1) (by omega))
  have hw:=wr1 i m (by omega) (by omega)
  have hw2:wrap64 ((m:Int)-1)=(m:Int)-1:=by unfold wrap64;omega
  have hmn:∃ q:Nat,mn ((i:Int)+1) ((m:Int)-1)=(q:Int)∧q<m:=by
   refine ⟨(mn ((i:Int)+1) ((m:Int)-1)).toNat,?_,?_⟩<;>unfold mn<;>split<;>omega
  obtain ⟨q,hq,hqm⟩:=hmn
  have e1:((i+1:Nat):Int)=(i:Int)+1:=by omega
  simp only [QO.l0,hl,hy,hw,hw2,h1]
  rw [e1,hq,if_pos (by omega),if_pos (by omega),if_pos (by omega),if_pos (by omega),if_pos (by omega),qcU _ m q hqm,qcU n m i (by omega)]
  conv=>rhs;rw [GU,hq,qdr]
theorem qn4 (m:Nat) (h0:1≤m) (hm:m≤6) (h1:l1.length=m) (n:List Int) (hn:n.length=6) (r:Int):Ev (fun k=>QO.f k l0 l1 l2 a3 a4 (n.take m) r)
  (((GU ((m:Int)-1) n l1 m).set 0 (wrap64 (rd (GU ((m:Int)-1) n l1 m) 0+r))).take m):=by
 have hl:(n.take m).length=m:=by rw [List.length_take];omega
 refine Ev.congr (fun k => ?_) (qn5 l0 l1 l2 a3 a4 m h0 hm h1 n hn r m 0 (by omega))
 simp only [QO.f,hl]
 rw [if_pos (by omega),if_pos (by omega)]
 have he:List.replicate ((m:Int)).toNat (0:Int)=(GU ((m:Int)-1) n l1 0).take m:=by
  rw [Int.toNat_natCast,GU]
  rcases (by omega:m=1∨m=2∨m=3∨m=4∨m=5∨m=6) with h|h|h|h|h|h<;>subst h<;>rfl
 rw [he]
 rfl
end
def plL (m:Nat) (mesh:Int) (keep spawn tk rc:List Int):Nat→Nat→List Int→List Int→List Int
 | 0,_,_,acc=>acc
 | d+1,i,n,acc=>plL m mesh keep spawn tk rc d (i+1) (Kj m mesh keep spawn n (rd tk i) (rd rc i)).2 (acc++[(Kj m mesh keep spawn n (rd tk i) (rd rc i)).1])
theorem six {l:List Int} (h:l.length=6):[rd l 0,rd l 1,rd l 2,rd l 3,rd l 4,rd l 5]=l:=by
 rcases l with _|⟨a,_|⟨b,_|⟨c,_|⟨d,_|⟨e,_|⟨f,_|⟨g,l⟩⟩⟩⟩⟩⟩⟩<;>simp at h
 rfl
theorem qpJ {l:List Int} (h:l.length≤6):[rd l 0,rd l 1,rd l 2,rd l 3,rd l 4,rd l 5].take l.length=l:=by
 rcases l with _|⟨a,_|⟨b,_|⟨c,_|⟨d,_|⟨e,_|⟨f,_|⟨g,l⟩⟩⟩⟩⟩⟩⟩<;>simp at h
 all_goals rfl
section
variable (l0 l1 l2:List Int) (a3 a4:Int) (ho:okR l0 l1 l2 a4) (tk rc:List Int) (hlen:rc.length=tk.length) (h10:tk.length≤10)
include ho hlen h10
omit ho hlen h10 in
theorem qo2 (h6:l0.length≤6):Zb.f l0 l1 l2 a3 a4=some (rd l0 0,rd l0 1,rd l0 2,rd l0 3,rd l0 4,rd l0 5):=by
 unfold Zb.f;rw [if_pos h6]
end
theorem qj9 (l:List Int) (hi':Int) (hn:l.length≤9223372036854775807):∀ (d i:Nat) (b:Bool),i+d=l.length→Ev (fun k=>QS.l0 k l hi' b (i:Int)) (b&&(l.drop i).all (fun x=>wi x 0 hi')):=by
 intro d
 induction d with
 | zero =>
  intro i b hi
  rw [List.drop_eq_nil_of_le (by omega),List.all_nil,Bool.and_true]
  refine Ev.step (f:=fun _=>some b) (fun k => ?_) (Ev.now _)
  simp only [QS.l0]
  rw [if_neg (by omega:¬ (i:Int)<(l.length:Int))]
  simp
 | succ d ih =>
  intro i b hi
  cases b with
  | false =>
   rw [Bool.false_and]
   refine Ev.step (f:=fun _=>some false) (fun k => ?_) (Ev.now _)
   simp [QS.l0]
  | true =>
   have hlt:i<l.length:=by omega
   rw [List.drop_eq_getElem_cons hlt,List.all_cons,Bool.true_and]
   refine Ev.step (f:=fun k=>QS.l0 k l hi' (wi l[i] 0 hi') ((i+1:Nat):Int)) (fun k => ?_) (ih (i+1) _ (by omega))
   have hw:=wr1 i l.length hlt (by omega)
   simp only [QS.l0,qaJ,Option.bind_some,hw,rdI l i hlt]
   rw [if_pos trivial,if_pos (by omega),if_pos (by omega)]
theorem qe0 (l:List Int) (a hi':Int) (hn:l.length≤9223372036854775807):Ev (fun k=>QS.f k l a hi') (((l.length:Int)==a)&&l.all (fun x=>wi x 0 hi')):=qj9 l hi' hn l.length 0 _ (by omega)
end
section
theorem qsz (l:List (List Int)) (i:Nat) (h:i<l.length):Ya l (i:Int)=l[i]:=by simp [Ya,List.getD_eq_getElem?_getD,List.getElem?_eq_getElem h]
theorem qkM (l:List (List (List Int))) (i:Nat) (h:i<l.length):QE l (i:Int)=l[i]:=by simp [QE,List.getD_eq_getElem?_getD,List.getElem?_eq_getElem h]
def isS (s:S39):Bool:=isR s.f0 s.f1 s.f2 s.f3 s.f4
def yrs (q:List (List (List Int))):Nat:=(Ya (QE q 0) 0).length
def vals (row:List Int):Bool:=row.all (fun x=>wi x 0 100000)
def qao (y:Nat) (row:List Int):Bool:=(wi (row.length:Int) 1 10&&((row.length:Int)==(y:Int)))&&vals row
def Xu (n y:Nat) (s:List (List Int)):Bool:=((s.length:Int)==(n:Int))&&s.all (qao y)
def rowR (y:Nat) (row:List Int):Bool:=((row.length:Int)==(y:Int))&&vals row
def seaR (n y:Nat) (s:List (List Int)):Bool:=((s.length:Int)==(n:Int))&&s.all (rowR y)
def rOk (races:List S39) (keep:List Int):Nat→Nat→Bool
 | 0,_=>true
 | d+1,i=>(isS (Qd races i)&&wi (rd keep i) 0 100)&&rOk races keep d (i+1)
def rsOk (races:List S39):Nat→Nat→Bool
 | 0,_=>true
 | d+1,i=>isS (Qd races i)&&rsOk races d (i+1)
section
variable (races:List S39) (keep:List Int) (q:List (List (List Int))) (hq:LB q)
theorem qv7 (n:Nat) (S si:Int) (s:List (List Int)) (sl ri:Int) (row:List Int) (hn:row.length≤9223372036854775807) (r:Int):∀ (d j:Nat) (b:Bool),j+d=row.length→Ev (fun k=>Qj.l2 k n (b&&(row.drop j).all (fun x=>wi x 0 100000)) q S si s sl (wrap64 (ri+1)) races keep q) r→Ev (fun k=>Qj.l3 k n b q S si s sl ri row (row.length:Int) (j:Int) races keep q) r:=by
 intro d
 induction d with
 | zero =>
  intro j b hj h
  rw [List.drop_eq_nil_of_le (by omega),List.all_nil,Bool.and_true] at h
  refine Ev.step (fun k => ?_) h
  simp only [Qj.l3]
  rw [if_neg (by omega)]
 | succ d ih =>
  intro j b hj h
  have hlt:j<row.length:=by omega
  rw [List.drop_eq_getElem_cons hlt,List.all_cons,← Bool.and_assoc] at h
  refine Ev.step (f:=fun k=>Qj.l3 k n (b&&wi row[j] 0 100000) q S si s sl ri row (row.length:Int) ((j+1:Nat):Int) races keep q) (fun k => ?_) (ih (j+1) _ (by omega) h)
  have hw:=wr1 j row.length hlt (by omega)
  simp only [Qj.l3,GC,Option.bind_some,hw,rdI row j hlt]
  rw [if_pos (by omega),if_pos (by omega),if_pos (by omega)]
  cases b<;>simp
theorem qpK (n:Nat) (S si:Int) (s:List (List Int)) (hs:LB2 s) (r:Int):∀ (d i:Nat) (b:Bool),i+d=s.length→(b=true→0<q.length∧0<(QE q 0).length)→Ev (fun k=>Qj.l1 k n (b&&(s.drop i).all (qao (yrs q))) q S (wrap64 (si+1)) races keep q) r→Ev (fun k=>Qj.l2 k n b q S si s (s.length:Int) (i:Int) races keep q) r:=by
 intro d
 induction d with
 | zero =>
  intro i b hi hb h
  rw [List.drop_eq_nil_of_le (by omega),List.all_nil,Bool.and_true] at h
  refine Ev.step (fun k => ?_) h
  simp only [Qj.l2]
  rw [if_neg (by omega)]
 | succ d ih =>
  intro i b hi hb h
  have hlt:i<s.length:=by omega
  have hs1:=hs.1
  rw [List.drop_eq_getElem_cons hlt,List.all_cons,← Bool.and_assoc] at h
  have hrow:s[i].length≤9223372036854775807:=hs.2 _ (List.getElem_mem hlt)
  have hw:=wr1 i s.length hlt (by omega)
  refine Ev.step (f:=fun k=>Qj.j6 k n (b&&(wi (s[i].length:Int) 1 10&&((s[i].length:Int)==(yrs q:Int)))) s[i] q S si s (s.length:Int) (i:Int) races keep q) (fun k => ?_) (Ev.step (f:=fun k=>Qj.l3 k n (b&&(wi (s[i].length:Int) 1 10&&((s[i].length:Int)==(yrs q:Int)))) q S si s (s.length:Int) (i:Int) s[i] (s[i].length:Int) ((0:Nat):Int) races keep q) (fun k=>by simp [Qj.j6]) ?_)
  ·
   simp only [Qj.l2,GC,Option.bind_some,qsz s i hlt]
   rw [if_pos (by omega),if_pos (by omega),if_pos (by omega)]
   cases b with
   | false=>simp
   | true =>
    obtain ⟨g1,g2⟩:=hb rfl
    cases h1:wi (s[i].length:Int) 1 10 with
    | false=>simp
    | true =>
     rw [if_pos rfl,if_pos rfl,if_pos (by omega),if_pos (by omega)]
     rfl
  ·
   refine qv7 races keep q n S si s _ _ s[i] hrow r s[i].length 0 _ (by omega) ?_
   rw [hw,List.drop_zero]
   refine ih (i+1) _ (by omega) (fun hh=>hb ?_) ?_
   ·
    simp only [Bool.and_eq_true] at hh
    exact hh.1.1
   ·
    have e:(b&&(wi (s[i].length:Int) 1 10&&((s[i].length:Int)==(yrs q:Int)))&&s[i].all (fun x=>wi x 0 100000)&&(s.drop (i+1)).all (qao (yrs q)))=(b&&qao (yrs q) s[i]&&(s.drop (i+1)).all (qao (yrs q))):=by
     unfold qao vals;simp only [Bool.and_assoc]
    rw [e]
    exact h
def cres (b:Bool):Int:=if b=true then 0 else 93
include hq in
theorem qv6 (n:Nat) (hn1:1≤n):∀ (d i:Nat) (b:Bool),i+d=q.length→(b=true→0<i→(QE q 0).length=n)→Ev (fun k=>Qj.l1 k n b q (q.length:Int) (i:Int) races keep q) (cres (b&&(q.drop i).all (Xu n (yrs q)))):=by
 intro d
 induction d with
 | zero =>
  intro i b hi hb
  rw [List.drop_eq_nil_of_le (by omega),List.all_nil,Bool.and_true]
  refine Ev.step (f:=fun _=>some (cres b)) (fun k => ?_) (Ev.now _)
  simp only [Qj.l1]
  rw [if_neg (by omega)]
  cases b<;>rfl
 | succ d ih =>
  intro i b hi hb
  have hlt:i<q.length:=by omega
  have hq1:=hq.1
  have hw:=wr1 i q.length hlt (by omega)
  rw [List.drop_eq_getElem_cons hlt,List.all_cons]
  have hbn:(b&&((q[i].length:Int)==(n:Int)))=true→(QE q 0).length=n:=fun hh=>by
   rw [Bool.and_eq_true] at hh
   by_cases h0:0<i
   ·
    exact hb hh.1 h0
   ·
    have e0:i=0:=by omega
    subst e0;have:=qkM q 0 hlt;have h2:=hh.2
    simp at h2
    rw [show QE q 0=q[0] from this]
    omega
  refine Ev.step (f:=fun k=>Qj.j4 k n (b&&((q[i].length:Int)==(n:Int))) q[i] q (q.length:Int) (i:Int) races keep q) (fun k => ?_) (Ev.step (f:=fun k=>Qj.l2 k n (b&&((q[i].length:Int)==(n:Int))) q (q.length:Int) (i:Int) q[i] (q[i].length:Int) ((0:Nat):Int) races keep q) (fun k=>by simp [Qj.j4]) ?_)
  ·
   simp only [Qj.l1,qkM q i hlt]
   rw [if_pos (by omega),if_pos (by omega),if_pos (by omega)]
   cases b<;>simp
  ·
   refine qpK races keep q n _ _ q[i] (hq.2 _ (List.getElem_mem hlt)) _ q[i].length 0 _ (by omega) (fun hh=>⟨by omega,by rw [hbn hh];omega⟩) ?_
   rw [hw,List.drop_zero]
   have e:(b&&(Xu n (yrs q) q[i]&&(q.drop (i+1)).all (Xu n (yrs q))))=(b&&((q[i].length:Int)==(n:Int))&&q[i].all (qao (yrs q))&&(q.drop (i+1)).all (Xu n (yrs q))):=by
    unfold Xu;simp only [Bool.and_assoc]
   rw [e]
   refine ih (i+1) _ (by omega) (fun hh _=>hbn ?_)
   rw [Bool.and_eq_true] at hh
   exact hh.1
theorem qv5 (n:Nat) (hn:races.length=n) (hnb:n≤3) (r:Int):∀ (d i:Nat) (b:Bool),i+d=n→(b=true→keep.length=n)→Ev (fun k=>Qj.l1 k n (b&&rOk races keep d i) q (q.length:Int) ((0:Nat):Int) races keep q) r→Ev (fun k=>Qj.l0 k n b (i:Int) races keep q) r:=by
 have HF:∀ (i:Int) (b:Bool),Ev (fun k=>Qj.l1 k n b q (q.length:Int) ((0:Nat):Int) races keep q) r→Ev (fun k=>Qj.j2 k n b i false races keep q) r:=fun i b h=>by
  refine Ev.step (fun k => ?_) h
  simp [Qj.j2]
 intro d
 induction d with
 | zero =>
  intro i b hi hb h
  rw [rOk,Bool.and_true] at h
  refine Ev.step (f:=fun k=>Qj.j2 k n b (i:Int) false races keep q) (fun k => ?_) (HF _ _ h)
  simp only [Qj.l0]
  rw [decide_eq_false (by omega:¬ (i:Int)<(n:Int))]
  cases b<;>rfl
 | succ d ih =>
  intro i b hi hb h
  cases b with
  | false =>
   rw [Bool.false_and] at h
   refine Ev.step (f:=fun k=>Qj.j2 k n false (i:Int) false races keep q) (fun k => ?_) (HF _ _ h)
   simp [Qj.l0]
  | true =>
   have hk:=hb rfl
   rw [Bool.true_and,rOk] at h
   have hw:=wr1 i n (by omega) (by omega)
   refine Ev.step (f:=fun k=>Qj.j2 k n true (i:Int) true races keep q) (fun k => ?_) ?_
   ·
    simp only [Qj.l0];rw [decide_eq_true (by omega:(i:Int)<(n:Int))]
    rfl
   ·
    refine Ev.step (f:=fun k=>(Qh.f k ((Qd races i).f0) ((Qd races i).f1) ((Qd races i).f2) ((Qd races i).f3) ((Qd races i).f4)).bind fun qjg=>(if qjg=true then (Qj.l0 k n (wi (rd keep i) 0 100) ((i+1:Nat):Int) races keep q) else (Qj.l0 k n false ((i+1:Nat):Int) races keep q))) (fun k => ?_) (Ev.bind (qfS _ _ _ _ _) ?_)
    ·
     have g1:(0:Int)≤(i:Int):=by omega
     have g2:(i:Int)<(races.length:Int):=by omega
     have g3:(i:Int)<(keep.length:Int):=by omega
     simp only [Qj.j2,GC,Option.bind_some,hw,if_pos g1,if_pos g2,if_pos g3,if_true]
    ·
     have e1:isR ((Qd races i).f0) ((Qd races i).f1) ((Qd races i).f2) ((Qd races i).f3) ((Qd races i).f4)=isS (Qd races i):=rfl;rw [e1]
     cases h1:isS (Qd races i) with
     | false =>
      rw [h1] at h;simp only [Bool.false_and] at h
      exact ih (i+1) false (by omega) (fun _=>hk) (by simpa using h)
     | true =>
      rw [h1] at h;simp only [Bool.true_and] at h
      exact ih (i+1) _ (by omega) (fun _=>hk) h
def okA (races:List S39) (keep:List Int) (q:List (List (List Int))):Bool :=
 (((wi (races.length:Int) 1 3&&decide (keep.length=races.length))&&wi (q.length:Int) 1 6)&&rOk races keep races.length 0)&&q.all (Xu races.length (yrs q))
include hq in
theorem qg7 (n:Nat):∀ (d i:Nat),i+d=q.length→Ev (fun k=>Qj.l1 k n false q (q.length:Int) (i:Int) races keep q) 93:=by
 intro d
 induction d with
 | zero =>
  intro i hi
  refine Ev.step (f:=fun _=>some 93) (fun k => ?_) (Ev.now _)
  simp only [Qj.l1]
  rw [if_neg (by omega)]
  rfl
 | succ d ih =>
  intro i hi
  have hlt:i<q.length:=by omega
  have hq1:=hq.1
  have hw:=wr1 i q.length hlt (by omega)
  refine Ev.step (f:=fun k=>Qj.j4 k n false q[i] q (q.length:Int) (i:Int) races keep q) (fun k => ?_) (Ev.step (f:=fun k=>Qj.l2 k n false q (q.length:Int) (i:Int) q[i] (q[i].length:Int) ((0:Nat):Int) races keep q) (fun k=>by simp [Qj.j4]) ?_)
  ·
   simp only [Qj.l1,qkM q i hlt]
   rw [if_pos (by omega),if_pos (by omega),if_pos (by omega)]
   simp
  ·
   refine qpK races keep q n _ _ q[i] (hq.2 _ (List.getElem_mem hlt)) _ q[i].length 0 _ (by omega) (fun hh=>by simp at hh) ?_
   rw [hw,Bool.false_and]
   exact ih (i+1) (by omega)
theorem qg6 (n:Nat) (hq':LB q):Ev (fun k=>Qj.j0 k n false races keep q) 93:=by
 refine Ev.step (f:=fun k=>Qj.l0 k n false 0 races keep q) (fun k=>by simp [Qj.j0]) ?_
 refine Ev.step (f:=fun k=>Qj.j2 k n false 0 false races keep q) (fun k=>by simp [Qj.l0]) ?_
 refine Ev.step (f:=fun k=>Qj.l1 k n false q (q.length:Int) ((0:Nat):Int) races keep q) (fun k=>by simp [Qj.j2]) ?_
 exact qg7 races keep q hq' n q.length 0 (by omega)
include hq in
theorem qe7:Ev (fun k=>Qj.f k races keep q) (cres (okA races keep q)):=by
 have HF:=qg6 races keep q races.length hq
 unfold okA
 simp only [Qj.f,GC,Option.bind_some]
 cases h1:wi (races.length:Int) 1 3 with
 | false=>simpa [cres] using HF
 | true =>
  have g1:=Uf.1 h1
  by_cases h2:keep.length=races.length
  ·
   simp only [h2,if_true,decide_true,Bool.true_and,Bool.and_true]
   refine Ev.step (f:=fun k=>Qj.l0 k (races.length:Int) (wi (q.length:Int) 1 6) ((0:Nat):Int) races keep q) (fun k=>by simp [Qj.j0]) ?_
   refine qv5 races keep q races.length rfl (by omega) _ races.length 0 _ (by omega) (fun _=>h2) ?_
   have h:=qv6 races keep q hq races.length (by omega) q.length 0 (wi (q.length:Int) 1 6&&rOk races keep races.length 0) (by omega) (fun _ hh=>absurd hh (by omega))
   simpa using h
  ·
   have h2':¬ (keep.length:Int)=(races.length:Int):=by omega
   simpa [h2,h2',cres] using HF
theorem qdb:Yw.f races keep q=some (yrs q:Int):=by
 unfold Yw.f yrs
 by_cases h1:(q.length:Int)=0
 ·
  have:q=[]:=List.eq_nil_of_length_eq_zero (by omega)
  subst this
  rfl
 ·
  rw [if_neg h1,if_pos (by omega)]
  by_cases h2:((QE q 0).length:Int)=0
  ·
   rw [if_pos h2]
   have:QE q 0=[]:=List.eq_nil_of_length_eq_zero (by omega)
   rw [this]
   rfl
  ·
   rw [if_neg h2,if_pos (by omega)]
include hq in
theorem qv3 (n:Nat) (hn:races.length=n) (hnb:n≤3) (i:Nat) (hi:i<q.length) (r:Int):∀ (d j:Nat) (b:Bool),j+d=n→(b=true→q[i].length=n)→Ev (fun k=>Qb.l1 k (b&&(q[i].drop j).all (rowR (yrs q))) (wrap64 ((i:Int)+1)) races keep q) r→Ev (fun k=>Qb.l2 k b (i:Int) (j:Int) races keep q) r:=by
 have HF:∀ (b:Bool) (j:Int),Ev (fun k=>Qb.l1 k b (wrap64 ((i:Int)+1)) races keep q) r→Ev (fun k=>Qb.j6 k b (i:Int) j false races keep q) r:=fun b j h=>by
  refine Ev.step (fun k => ?_) h
  simp [Qb.j6]
 have hF2:∀ (j:Nat),Ev (fun k=>Qb.l1 k false (wrap64 ((i:Int)+1)) races keep q) r→Ev (fun k=>Qb.l2 k false (i:Int) (j:Int) races keep q) r:=fun j h=>by
  refine Ev.step (f:=fun k=>Qb.j6 k false (i:Int) (j:Int) false races keep q) (fun k => ?_) (HF _ _ h)
  simp [Qb.l2]
 intro d
 induction d with
 | zero =>
  intro j b hj hb h
  cases b with
  | false=>exact hF2 j (by simpa using h)
  | true =>
   have hl:=hb rfl
   rw [List.drop_eq_nil_of_le (by omega),List.all_nil,Bool.and_true] at h
   refine Ev.step (f:=fun k=>Qb.j6 k true (i:Int) (j:Int) false races keep q) (fun k => ?_) (HF _ _ h)
   simp only [Qb.l2]
   rw [decide_eq_false (by omega:¬ (j:Int)<(races.length:Int))]
   rfl
 | succ d ih =>
  intro j b hj hb h
  cases b with
  | false=>exact hF2 j (by simpa using h)
  | true =>
   have hl:=hb rfl
   have hlt:j<q[i].length:=by omega
   rw [List.drop_eq_getElem_cons hlt,List.all_cons,Bool.true_and] at h
   have hrow:q[i][j].length≤9223372036854775807:=(hq.2 _ (List.getElem_mem hi)).2 _ (List.getElem_mem hlt)
   have hw:=wr1 j n (by omega) (by omega)
   refine Ev.step (f:=fun k=>Qb.j6 k true (i:Int) (j:Int) true races keep q) (fun k => ?_) ?_
   ·
    simp only [Qb.l2];rw [decide_eq_true (by omega:(j:Int)<(races.length:Int))]
    rfl
   ·
    refine Ev.step (f:=fun k=>(QS.f k q[i][j] (yrs q:Int) 100000).bind fun qfc=>Qb.l2 k qfc (i:Int) ((j+1:Nat):Int) races keep q) (fun k => ?_) ?_
    ·
     simp only [Qb.j6,qkM q i hi,qsz q[i] j hlt,qdb,Option.bind_some,hw];rw [if_pos trivial,if_pos (by omega),if_pos (by omega),if_pos (by omega),if_pos (by omega)]
    ·
     refine Ev.bind (qe0 q[i][j] (yrs q:Int) 100000 hrow) ?_
     exact ih (j+1) (rowR (yrs q) q[i][j]) (by omega) (fun _=>hl) h
include hq in
theorem qv2 (n:Nat) (hn:races.length=n) (hnb:n≤3):∀ (d i:Nat) (b:Bool),i+d=q.length→Ev (fun k=>Qb.l1 k b (i:Int) races keep q) (cres (b&&(q.drop i).all (seaR n (yrs q)))):=by
 have HF:∀ (b:Bool) (i:Int),Ev (fun k=>Qb.j4 k b i false races keep q) (cres b):=fun b i=>by
  refine Ev.step (f:=fun _=>some (cres b)) (fun k => ?_) (Ev.now _)
  cases b<;>simp [Qb.j4,cres]
 intro d
 induction d with
 | zero =>
  intro i b hi
  rw [List.drop_eq_nil_of_le (by omega),List.all_nil,Bool.and_true]
  refine Ev.step (f:=fun k=>Qb.j4 k b (i:Int) false races keep q) (fun k => ?_) (HF _ _)
  simp only [Qb.l1]
  rw [decide_eq_false (by omega:¬ (i:Int)<(q.length:Int))]
  cases b<;>rfl
 | succ d ih =>
  intro i b hi
  cases b with
  | false =>
   rw [Bool.false_and]
   refine Ev.step (f:=fun k=>Qb.j4 k false (i:Int) false races keep q) (fun k => ?_) (HF _ _)
   simp [Qb.l1]
  | true =>
   have hlt:i<q.length:=by omega
   have hq1:=hq.1
   have hw:=wr1 i q.length hlt (by omega)
   rw [List.drop_eq_getElem_cons hlt,List.all_cons,Bool.true_and]
   refine Ev.step (f:=fun k=>Qb.j4 k true (i:Int) true races keep q) (fun k => ?_) ?_
   ·
    simp only [Qb.l1];rw [decide_eq_true (by omega:(i:Int)<(q.length:Int))]
    rfl
   ·
    refine Ev.step (f:=fun k=>Qb.l2 k ((q[i].length:Int)==(n:Int)) (i:Int) ((0:Nat):Int) races keep q) (fun k => ?_) ?_
    ·
     simp only [Qb.j4,qkM q i hlt,hn];rw [if_pos trivial,if_pos (by omega),if_pos (by omega)]
     rfl
    ·
     refine qv3 races keep q hq n hn hnb i hlt _ n 0 _ (by omega) (fun hh=>by simp at hh;omega) ?_;rw [hw,List.drop_zero];have h:=ih (i+1) (seaR n (yrs q) q[i]) (by omega)
     exact h
theorem qpG (b:Bool) (r:Int) (h:Ev (fun k=>Qb.l1 k b ((0:Nat):Int) races keep q) r):Ev (fun k=>Qb.j2 k b races keep q) r :=
 Ev.step (fun k=>by simp [Qb.j2]) h
theorem qv1 (n:Nat) (hn:races.length=n) (hnb:n≤3) (r:Int):∀ (d i:Nat) (b:Bool),i+d=n→Ev (fun k=>Qb.l1 k (b&&rsOk races d i) ((0:Nat):Int) races keep q) r→Ev (fun k=>Qb.l0 k b (i:Int) races keep q) r:=by
 intro d
 induction d with
 | zero =>
  intro i b hi h
  rw [rsOk,Bool.and_true] at h
  refine Ev.step (fun k => ?_) (qpG races keep q b r h)
  simp only [Qb.l0]
  rw [if_neg (by omega:¬ (i:Int)<(races.length:Int))]
  simp
 | succ d ih =>
  intro i b hi h
  cases b with
  | false =>
   rw [Bool.false_and] at h
   refine Ev.step (fun k => ?_) (qpG races keep q false r h)
   simp [Qb.l0]
  | true =>
   rw [Bool.true_and,rsOk] at h
   have hw:=wr1 i n (by omega) (by omega)
   refine Ev.step (f:=fun k=>(Qm.f k ((Qd races i).f0) ((Qd races i).f1) ((Qd races i).f2) ((Qd races i).f3) ((Qd races i).f4)).bind fun qhm=>(Qb.l0 k qhm ((i+1:Nat):Int) races keep q)) (fun k => ?_) (Ev.bind (qsA _ _ _ _ _) ?_)
   ·
    simp only [Qb.l0,hw];rw [if_pos trivial,if_pos (by omega),if_pos (by omega)]
   ·
    exact ih (i+1) (isS (Qd races i)) (by omega) h
def okB (races:List S39) (keep:List Int) (q:List (List (List Int))):Bool :=
 (((((wi (races.length:Int) 1 3&&(((keep.length:Int)==(races.length:Int))&&keep.all (fun x=>wi x 0 100)))&&wi (q.length:Int) 1 6))&&wi (yrs q:Int) 1 10)&&rsOk races races.length 0)&&q.all (seaR races.length (yrs q))
theorem qg4:Ev (fun k=>Qb.j0 k false races keep q) 93:=by
 refine Ev.step (f:=fun k=>Qb.l0 k false 0 races keep q) (fun k=>by simp [Qb.j0]) ?_
 refine Ev.step (f:=fun k=>Qb.j2 k false races keep q) (fun k=>by simp [Qb.l0]) ?_
 refine Ev.step (f:=fun k=>Qb.l1 k false 0 races keep q) (fun k=>by simp [Qb.j2]) ?_
 refine Ev.step (f:=fun k=>Qb.j4 k false 0 false races keep q) (fun k=>by simp [Qb.l1]) ?_
 refine Ev.step (f:=fun _=>some 93) (fun k=>by simp [Qb.j4]) (Ev.now _)
include hq in
theorem qg2 (hkl:keep.length≤9223372036854775807):Ev (fun k=>Qb.f k races keep q) (cres (okB races keep q)):=by
 have HF:=qg4 races keep q
 unfold okB
 simp only [Qb.f,qaJ,Option.bind_some,qdb]
 cases h1:wi (races.length:Int) 1 3 with
 | false=>simpa [cres] using HF
 | true =>
  have g1:=Uf.1 h1
  simp only [if_true,Bool.true_and]
  refine Ev.bind (qe0 keep (races.length:Int) 100 hkl) ?_
  cases h2:(((keep.length:Int)==(races.length:Int))&&keep.all (fun x=>wi x 0 100)) with
  | false=>simpa [cres] using HF
  | true =>
   simp only [if_true,Bool.true_and]
   cases h3:wi (q.length:Int) 1 6 with
   | false=>simpa [cres] using HF
   | true =>
    simp only [if_true,Bool.true_and];refine Ev.step (f:=fun k=>Qb.l0 k (wi (yrs q:Int) 1 10) ((0:Nat):Int) races keep q) (fun k=>by simp [Qb.j0]) ?_;refine qv1 races keep q races.length rfl (by omega) _ races.length 0 _ (by omega) ?_;have h:=qv2 races keep q hq races.length rfl (by omega) q.length 0 (wi (yrs q:Int) 1 10&&rsOk races races.length 0) (by omega)
    simpa using h
end
theorem qnM (races:List S39) (keep:List Int):∀ (d i:Nat),i+d=keep.length→rOk races keep d i=(rsOk races d i&&(keep.drop i).all (fun x=>wi x 0 100)):=by
 intro d
 induction d with
 | zero=>intro i hi;rw [List.drop_eq_nil_of_le (by omega)];rfl
 | succ d ih =>
  intro i hi
  have h1:i<keep.length:=by omega
  rw [List.drop_eq_getElem_cons h1,List.all_cons,rOk,rsOk,ih (i+1) (by omega),rdI keep i h1]
  cases isS (Qd races i)<;>cases wi keep[i] 0 100<;>simp
theorem qpY {q:List (List (List Int))} {n:Nat} (hn:1≤n) (h:q.all (Xu n (yrs q))=true) (h1:1≤q.length):wi (yrs q:Int) 1 10=true:=by
 have h0:=List.all_eq_true.1 h q[0] (List.getElem_mem (by omega))
 unfold Xu at h0
 rw [Bool.and_eq_true] at h0
 have hl:q[0].length=n:=by have:=h0.1;simp at this;omega
 have hr:=List.all_eq_true.1 h0.2 q[0][0] (List.getElem_mem (by omega))
 unfold qao at hr
 simp only [Bool.and_eq_true] at hr
 have e:yrs q=q[0][0].length:=by
  unfold yrs
  have e1:=qkM q 0 (by omega)
  have e2:=qsz q[0] 0 (by omega)
  rw [show QE q 0=q[0] from e1,show Ya q[0] 0=q[0][0] from e2]
 rw [e]
 exact hr.1.1
theorem qpH {y:Nat} (h:wi (y:Int) 1 10=true) (row:List Int):qao y row=rowR y row:=by
 unfold qao rowR
 cases h1:((row.length:Int)==(y:Int)) with
 | false=>simp
 | true =>
  have:(row.length:Int)=(y:Int):=by simpa using h1
  rw [this,h]
  rfl
theorem qpI {n y:Nat} (h:wi (y:Int) 1 10=true):Xu n y=seaR n y:=by
 funext s
 unfold Xu seaR
 have:qao y=rowR y:=funext (qpH h)
 rw [this]
theorem qzt (races:List S39) (keep:List Int) (q:List (List (List Int))):okA races keep q=okB races keep q:=by
 unfold okA okB
 cases h1:wi (races.length:Int) 1 3 with
 | false=>simp
 | true =>
  have g1:=Uf.1 h1
  by_cases h2:keep.length=races.length
  ·
   have h2b:((keep.length:Int)==(races.length:Int))=true:=by simp [h2]
   rw [h2b,← h2,qnM races keep keep.length 0 (by omega),List.drop_zero]
   cases h3:wi (q.length:Int) 1 6 with
   | false=>simp
   | true =>
    have g3:=Uf.1 h3
    cases h4:wi (yrs q:Int) 1 10 with
    | true =>
     rw [qpI h4]
     cases rsOk races keep.length 0<;>cases keep.all (fun x=>wi x 0 100)<;>simp
    | false =>
     have:q.all (Xu keep.length (yrs q))=false:=by
      cases h5:q.all (Xu keep.length (yrs q)) with
      | false=>rfl
      | true=>rw [qpY (by omega) h5 (by omega)] at h4;cases h4
     rw [this]
     simp
  ·
   have h2b:((keep.length:Int)==(races.length:Int))=false:=by simp;omega
   rw [h2b]
   simp [h2]
structure Fish (races:List S39) (keep:List Int) (q:List (List (List Int))):Prop where
 n1:1≤races.length
 n3:races.length≤3
 hk:keep.length=races.length
 s1:1≤q.length
 s6:q.length≤6
 y1:1≤yrs q
 y10:yrs q≤10
 ra:∀ i:Nat,i<races.length→isS (Qd races i)=true∧wi (rd keep i) 0 100=true
 se:∀ s:Nat,s<q.length→(QE q s).length=races.length ∧ ∀ r:Nat,r<races.length→(Ya (QE q s) r).length=yrs q
theorem qpE {races:List S39} {keep:List Int}:∀ (d i:Nat),rOk races keep d i=true → ∀ j:Nat,i≤j→j<i+d→isS (Qd races j)=true∧wi (rd keep j) 0 100=true
 | 0,i,_,j,h1,h2=>by omega
 | d+1,i,h,j,h1,h2=>by
  rw [rOk,Bool.and_eq_true,Bool.and_eq_true] at h
  by_cases hj:j=i
  ·
   rw [hj];exact h.1
  ·
   exact qpE d (i+1) h.2 j (by omega) (by omega)
theorem qlx {races:List S39} {keep:List Int} {q:List (List (List Int))} (h:okA races keep q=true):Fish races keep q:=by
 unfold okA at h
 simp only [Bool.and_eq_true,decide_eq_true_eq] at h
 obtain ⟨⟨⟨⟨h1,h2⟩,h3⟩,h4⟩,h5⟩:=h
 have g1:=Uf.1 h1
 have g3:=Uf.1 h3
 have g5:=Uf.1 (qpY (by omega) h5 (by omega))
 refine ⟨by omega,by omega,h2,by omega,by omega,by omega,by omega,fun i hi=>qpE _ _ h4 i (by omega) (by omega),fun s hs => ?_⟩
 have h6:=List.all_eq_true.1 h5 q[s] (List.getElem_mem hs)
 rw [qkM q s hs]
 unfold Xu at h6
 rw [Bool.and_eq_true] at h6
 have hl:q[s].length=races.length:=by have:=h6.1;simp at this;omega
 refine ⟨hl,fun r hr => ?_⟩
 have h7:=List.all_eq_true.1 h6.2 q[s][r] (List.getElem_mem (by omega))
 rw [qsz q[s] r (by omega)]
 unfold qao at h7
 simp only [Bool.and_eq_true] at h7
 have:=h7.1.2
 simp at this
 omega
end
section
def upT (a:Int):Int:=wrap64 (Int.tdiv (wrap64 (wrap64 a+99)) 100)
theorem qzE (a:Int) (h0:0≤a) (h1:a≤10000000):GN.f (wrap64 a) 100=some (upT a):=by
 have e0:wrap64 a=a:=by unfold wrap64;omega
 have e1:wrap64 (-a) = -a:=by unfold wrap64;omega
 have e2:wrap64 (a+99)=a+99:=by unfold wrap64;omega
 have t1:Int.tmod (-a) 100 = -(a % 100):=by rw [Int.neg_tmod,Int.tmod_eq_emod_of_nonneg h0]
 have m1:G1.f (-a) 100=some (if a % 100=0 then 0 else 100-a % 100):=by
  unfold G1.f
  rw [if_neg (by decide),t1]
  by_cases hz:a % 100=0
  ·
   rw [if_neg (by omega),if_pos hz,hz];rfl
  ·
   rw [if_pos (by omega),if_neg hz]
   congr 1
   unfold wrap64
   omega
 unfold GN.f Gi.f upT
 rw [e0,e1,m1,e2]
 simp only [Option.bind_some]
 rw [if_neg (by decide)]
 simp only [Option.bind_some]
 congr 1
 rw [Int.tdiv_eq_ediv_of_nonneg (by omega:0≤a+99)]
 by_cases hz:a % 100=0
 ·
  rw [if_pos hz]
  have e3:wrap64 (-a-0) = -a:=by unfold wrap64;omega
  rw [e3,Int.neg_tdiv,Int.tdiv_eq_ediv_of_nonneg h0]
  unfold wrap64
  omega
 ·
  rw [if_neg hz]
  have e3:wrap64 (-a-(100-a % 100)) = -(a+(100-a % 100)):=by unfold wrap64;omega
  rw [e3,Int.neg_tdiv,Int.tdiv_eq_ediv_of_nonneg (by omega)]
  unfold wrap64
  omega
def brL (m:Nat) (mesh:Int) (keep spawn:List Int) (line tk:Int) (rc:List Int):Nat→Nat→List Int→Int
 | 0,_,_ => -1
 | d+1,i,n=>if (Kj m mesh keep spawn n tk (rd rc i)).1<line then (i:Int) else brL m mesh keep spawn line tk rc d (i+1) (Kj m mesh keep spawn n tk (rd rc i)).2
theorem qng (m:Nat) (mesh:Int) (keep spawn:List Int) (line tk:Int) (rc:List Int) (n:List Int) (x:Int) (h1:(Kj m mesh keep spawn n tk x).2=n) (h2:¬ (Kj m mesh keep spawn n tk x).1<line):∀ (d i:Nat),(∀ j:Nat,i≤j→j<i+d→rd rc j=x)→brL m mesh keep spawn line tk rc d i n = -1:=by
 intro d
 induction d with
 | zero=>intro i h;rfl
 | succ d ih =>
  intro i h
  rw [brL,h i (by omega) (by omega),if_neg h2,h1]
  exact ih (i+1) (fun j g1 g2=>h j (by omega) (by omega))
theorem qv4 {a b:List Int} (ha:a.length=6) (hb:b.length=6) (h:(rd a 0==rd b 0&&(rd a 1==rd b 1&&(rd a 2==rd b 2&&(rd a 3==rd b 3&&(rd a 4==rd b 4&&(rd a 5==rd b 5))))))=true):a=b:=by
 simp only [Bool.and_eq_true,beq_iff_eq] at h
 obtain ⟨h0,h1,h2,h3,h4,h5⟩:=h
 rw [← six ha,← six hb,h0,h1,h2,h3,h4,h5]
theorem qjf (l0 l1 l2:List Int) (a3 a4:Int) (ho:okR l0 l1 l2 a4) (tk:Int) (rc:List Int) (h10:rc.length≤10):∀ (d i:Nat) (n:List Int),n.length=6→i+d=rc.length→Ev (fun k=>QB.l0 k tk rc rc (rc.length:Int) (i:Int) l0 l1 l2 a3 a4 (rd n 0) (rd n 1) (rd n 2) (rd n 3) (rd n 4) (rd n 5)) (brL l0.length a4 l1 l2 a3 tk rc d i n):=by
 intro d
 induction d with
 | zero =>
  intro i n hn hi
  refine Ev.step (f:=fun _=>some (-1)) (fun k => ?_) (Ev.now _)
  simp only [QB.l0]
  rw [if_neg (by omega)]
 | succ d ih =>
  intro i n hn hi
  have h6:=qfV l0.length a4 l1 l2 n tk (rd rc i)
  have hw:=wr1 i rc.length (by omega) (by omega)
  rw [brL]
  by_cases c1:(Kj l0.length a4 l1 l2 n tk (rd rc i)).1<a3
  ·
   rw [if_pos c1]
   refine Ev.step (f:=fun _=>some (i:Int)) (fun k => ?_) (Ev.now _)
   simp only [QB.l0,hw,Z8.f,six hn]
   rw [if_pos (by omega),if_pos (by omega),if_pos (by omega),if_pos ho,Option.bind_some,if_pos c1]
  ·
   rw [if_neg c1]
   by_cases c2:(rd (Kj l0.length a4 l1 l2 n tk (rd rc i)).2 0==rd n 0&&(rd (Kj l0.length a4 l1 l2 n tk (rd rc i)).2 1==rd n 1&&(rd (Kj l0.length a4 l1 l2 n tk (rd rc i)).2 2==rd n 2&&(rd (Kj l0.length a4 l1 l2 n tk (rd rc i)).2 3==rd n 3&&(rd (Kj l0.length a4 l1 l2 n tk (rd rc i)).2 4==rd n 4&&(rd (Kj l0.length a4 l1 l2 n tk (rd rc i)).2 5==rd n 5))))))=true
   ·
    have he:=qv4 h6 hn c2
    cases c3:(rc.drop i).any (fun z=>z != rd rc i) with
    | true =>
     refine Ev.step (fun k => ?_) (ih (i+1) _ h6 (by omega));simp only [QB.l0,hw,Z8.f,six hn];rw [if_pos (by omega),if_pos (by omega),if_pos (by omega),if_pos ho,Option.bind_some,if_neg c1,if_pos c2,if_pos (by omega)]
     simp only [ZF.f,Option.bind_some,Int.toNat_natCast,c3,if_true]
    | false =>
     have hq:∀ j:Nat,i+1≤j→j<i+1+d→rd rc j=rd rc i:=fun j g1 g2=>by
      have hj:j<rc.length:=by omega
      rw [rdI rc j hj]
      have hm:rc[j]∈rc.drop i:=by
       rw [List.mem_drop_iff_getElem]
       exact ⟨j-i,by omega,by congr 1;omega⟩
      have:=List.any_eq_false.1 c3 _ hm
      simpa using this
     have hb:=qng l0.length a4 l1 l2 a3 tk rc n (rd rc i) he c1 d (i+1) hq;rw [he,hb];refine Ev.step (f:=fun _=>some (-1)) (fun k => ?_) (Ev.now _);simp only [QB.l0,hw,Z8.f,six hn];rw [if_pos (by omega),if_pos (by omega),if_pos (by omega),if_pos ho,Option.bind_some,if_neg c1,if_pos c2,if_pos (by omega)];simp only [ZF.f,Option.bind_some,Int.toNat_natCast,c3]
     rfl
   ·
    refine Ev.step (fun k => ?_) (ih (i+1) _ h6 (by omega));simp only [QB.l0,hw,Z8.f,six hn];rw [if_pos (by omega),if_pos (by omega),if_pos (by omega),if_pos ho,Option.bind_some,if_neg c1,if_neg c2]
def stt (s:S39) (tk:Int) (rc:List Int):Nat→List Int
 | 0=>[rd s.f0 0,rd s.f0 1,rd s.f0 2,rd s.f0 3,rd s.f0 4,rd s.f0 5]
 | i+1=>(Kj s.f0.length s.f4 s.f1 s.f2 (stt s tk rc i) tk (rd rc i)).2
def spw (s:S39) (tk:Int) (rc:List Int) (i:Nat):Int:=(Kj s.f0.length s.f4 s.f1 s.f2 (stt s tk rc i) tk (rd rc i)).1
def brS (s:S39) (tk:Int) (rc:List Int):Int:=brL s.f0.length s.f4 s.f1 s.f2 s.f3 tk rc rc.length 0 (stt s tk rc 0)
theorem qqw (s:S39) (tk:Int) (rc:List Int):∀ (d i:Nat),(brL s.f0.length s.f4 s.f1 s.f2 s.f3 tk rc d i (stt s tk rc i) = -1 ∧ ∀ j,i≤j→j<i+d → ¬ spw s tk rc j<s.f3) ∨
  (∃ j:Nat,i≤j∧j<i+d∧brL s.f0.length s.f4 s.f1 s.f2 s.f3 tk rc d i (stt s tk rc i)=(j:Int)∧spw s tk rc j<s.f3 ∧ ∀ h,i≤h→h<j → ¬ spw s tk rc h<s.f3):=by
 intro d
 induction d with
 | zero=>intro i;exact .inl ⟨rfl,fun j h1 h2=>by omega⟩
 | succ d ih =>
  intro i
  rw [brL]
  by_cases c:(Kj s.f0.length s.f4 s.f1 s.f2 (stt s tk rc i) tk (rd rc i)).1<s.f3
  ·
   rw [if_pos c]
   exact .inr ⟨i,by omega,by omega,rfl,c,fun h h1 h2=>by omega⟩
  ·
   rw [if_neg c]
   rcases ih (i+1) with ⟨h1,h2⟩|⟨j,h1,h2,h3,h4,h5⟩
   ·
    refine .inl ⟨h1,fun j g1 g2 => ?_⟩
    by_cases hj:j=i
    ·
     rw [hj];exact c
    ·
     exact h2 j (by omega) (by omega)
   ·
    refine .inr ⟨j,by omega,by omega,h3,h4,fun h g1 g2 => ?_⟩
    by_cases hj:h=i
    ·
     rw [hj];exact c
    ·
     exact h5 h (by omega) g2
theorem qsq (s:S39) (tk:Int) (tks rc:List Int):∀ (d i:Nat) (acc:List Int),(∀ j:Nat,i≤j→j<i+d→rd tks j=tk)→plL s.f0.length s.f4 s.f1 s.f2 tks rc d i (stt s tk rc i) acc=acc++(List.range' i d).map (spw s tk rc):=by
 intro d
 induction d with
 | zero=>intro i acc h;simp [plL]
 | succ d ih =>
  intro i acc h
  rw [plL,h i (by omega) (by omega)]
  have:=ih (i+1) (acc++[spw s tk rc i]) (fun j g1 g2=>h j (by omega) (by omega))
  rw [show (Kj s.f0.length s.f4 s.f1 s.f2 (stt s tk rc i) tk (rd rc i)).2=stt s tk rc (i+1) from rfl,show (Kj s.f0.length s.f4 s.f1 s.f2 (stt s tk rc i) tk (rd rc i)).1=spw s tk rc i from rfl,this,List.range'_succ]
  simp
theorem qjZ (i d t r a:Nat) (h1:i+(d+1)=t) (h2:t≤r) (h3:t≤10) (h4:a=i):wrap64 ((i:Int)+1)=((i+1:Nat):Int)∧(i:Int)<(t:Int)∧(0:Int)≤(i:Int)∧a<17592186044416∧(i:Int)<(r:Int) :=
 ⟨wr1 i t (by omega) (by omega),by omega,Int.natCast_nonneg i,by omega,by omega⟩
theorem qi6 (l0 l1 l2:List Int) (a3 a4:Int) (ho:okR l0 l1 l2 a4) (tk rc:List Int) (hlen:tk.length≤rc.length) (h10:tk.length≤10):∀ (d i:Nat) (n acc:List Int),n.length=6→acc.length=i→i+d=tk.length→Ev (fun k=>QK.l0 k tk rc acc (n.take l0.length) (i:Int) l0 l1 l2 a3 a4) (plL l0.length a4 l1 l2 tk rc d i n acc):=by
 obtain ⟨o1,o2,o3,o4,o5,o6⟩:=ho
 intro d
 induction d with
 | zero =>
  intro i n acc hn ha hi
  refine Ev.step (f:=fun _=>some acc) (fun k => ?_) (Ev.now _)
  simp only [QK.l0]
  rw [if_neg (by omega)]
 | succ d ih =>
  intro i n acc hn ha hi
  obtain ⟨hw,g1,g2,g3,g4⟩:=qjZ i d tk.length rc.length acc.length hi hlen h10 ha
  have h6:=qfV l0.length a4 l1 l2 n (rd tk i) (rd rc i)
  have hc6:(KU a4 l0.length n (rd tk i)).1.length=6:=by rw [qfp];exact hn
  refine Ev.step (f:=fun k=>(Yl.f k l0 l1 l2 a3 a4 (n.take l0.length) (rd tk i)).bind fun qaq=>((Yp.f k l0 l1 l2 a3 a4 qaq).bind fun qfb=>((QO.f k l0 l1 l2 a3 a4 qaq (rd rc i)).bind fun qdp=>(QK.l0 k tk rc (acc++[qfb]) qdp ((i+1:Nat):Int) l0 l1 l2 a3 a4)))) (fun k => ?_) ?_
  ·
   clear h6 hc6 ih
   simp only [QK.l0,hw,if_pos g1,if_pos g2,if_pos g3,if_pos g4]
  ·
   refine Ev.bind (qnh l0 l1 l2 a3 a4 l0.length o2 o5 n (rd tk i) hn) (Ev.bind (qjd l0 l1 l2 a3 a4 l0.length o2 o4 _ hc6) (Ev.bind (qn4 l0 l1 l2 a3 a4 l0.length o1 o2 o3 _ hc6 (rd rc i)) ?_))
   exact ih (i+1) _ _ h6 (by simp;omega) (by omega)
theorem qg3 (s:S39) (hs:isS s=true) (tk:Int) (rc:List Int) (y:Nat) (hy:y<rc.length) (h10:rc.length≤10):Ev (fun k=>QK.f k s.f0 s.f1 s.f2 s.f3 s.f4 (List.replicate (y+1) tk) rc) ((List.range' 0 (y+1)).map (spw s tk rc)):=by
 have ho:=(qpn hs).1
 have h:=qi6 s.f0 s.f1 s.f2 s.f3 s.f4 ho (List.replicate (y+1) tk) rc (by simp;omega) (by simp;omega) (y+1) 0 (stt s tk rc 0) [] rfl rfl (by simp)
 rw [qsq s tk (List.replicate (y+1) tk) rc (y+1) 0 [] (fun j g1 g2=>by
  rw [rdI _ j (by simp;omega)];simp)] at h
 rw [List.nil_append] at h
 have e:(stt s tk rc 0).take s.f0.length=s.f0:=qpJ ho.2.1
 rw [e] at h
 exact h
abbrev Fres:=Int × Int × Int × Bool
def resF (y:Nat) (o:Option (Nat × Nat)) (R:Fres):Fres:=match o with
 | some p=>((p.1:Int),(p.2:Int),(y:Int),true)
 | none=>R
def frsG (F:Nat→Nat × Nat→Bool) (L:List (Nat × Nat)):Nat→Nat→Fres
 | 0,_=>(0,0,0,false)
 | d+1,y=>resF y (L.find? (F y)) (frsG F L d (y+1))
def upd (B:Nat × Nat→Int) (b:Int × Int × Int) (p:Nat × Nat):Int × Int × Int :=
 if B p≥0 then (if b.2.2<0 then ((p.1:Int),(p.2:Int),B p) else (if B p<b.2.2 then ((p.1:Int),(p.2:Int),B p) else b)) else b
def finF (b:Int × Int × Int):Int × Int × Int × Int:=if b.2.2<0 then (0,0,0,4) else (b.1,b.2.1,b.2.2,0)
def refF (R:Fres):Int × Int × Int × Int:=if R.2.2.2=true then (R.1,R.2.1,R.2.2.1,0) else (0,0,0,4)
def qor (B:Nat × Nat→Int) (F:Nat→Nat × Nat→Bool) (Y:Nat) (L:List (Nat × Nat)):Prop :=
 ∀ p∈L,(B p = -1 ∧ ∀ j,j<Y→F j p=false)∨(∃ j:Nat,j<Y∧B p=(j:Int)∧F j p=true ∧ ∀ h,h<j→F h p=false)
def InvB (B:Nat × Nat→Int) (done:List (Nat × Nat)) (b:Int × Int × Int):Prop :=
 (b.2.2<0 ∧ ∀ p∈done,B p<0) ∨
 (∃ pre p post,done=pre++p::post∧b=((p.1:Int),(p.2:Int),B p)∧0≤B p∧(∀ z∈pre,B z<0∨B p<B z) ∧ ∀ z∈post,B z<0∨B p≤B z)
theorem qpm (B:Nat × Nat→Int) (done:List (Nat × Nat)) (b:Int × Int × Int) (p:Nat × Nat) (h:InvB B done b):InvB B (done++[p]) (upd B b p):=by
 unfold upd
 rcases h with ⟨h1,h2⟩|⟨pre,z,post,h1,h2,h3,h4,h5⟩
 ·
  by_cases c:B p≥0
  ·
   rw [if_pos c,if_pos h1]
   exact .inr ⟨done,p,[],rfl,rfl,c,fun z hz => .inl (h2 z hz),fun z hz=>by simp at hz⟩
  ·
   rw [if_neg c]
   refine .inl ⟨h1,fun z hz => ?_⟩
   rw [List.mem_append] at hz
   rcases hz with hz|hz
   ·
    exact h2 z hz
   ·
    simp at hz;rw [hz];omega
 ·
  have hb:b.2.2=B z:=by rw [h2]
  have keepIt:(B p<0∨B z≤B p)→InvB B (done++[p]) b:=fun g=>by
   refine .inr ⟨pre,z,post++[p],by rw [h1];simp,h2,h3,h4,fun x hx => ?_⟩
   rw [List.mem_append] at hx
   rcases hx with hx|hx
   ·
    exact h5 x hx
   ·
    simp at hx;rw [hx];exact g
  by_cases c:B p≥0
  ·
   rw [if_pos c,hb,if_neg (by omega)]
   by_cases c2:B p<B z
   ·
    rw [if_pos c2];refine .inr ⟨done,p,[],rfl,rfl,c,fun x hx => ?_,fun x hx=>by simp at hx⟩;rw [h1,List.mem_append,List.mem_cons] at hx
    rcases hx with hx|hx|hx
    ·
     rcases h4 x hx with g|g
     ·
      exact .inl g
     ·
      exact .inr (by omega)
    ·
     rw [hx];exact .inr c2
    ·
     rcases h5 x hx with g|g
     ·
      exact .inl g
     ·
      exact .inr (by omega)
   ·
    rw [if_neg c2]
    exact keepIt (.inr (by omega))
  ·
   rw [if_neg c]
   exact keepIt (.inl (by omega))
theorem qiS (B:Nat × Nat→Int):∀ (L done:List (Nat × Nat)) (b:Int × Int × Int),InvB B done b→InvB B (done++L) (L.foldl (upd B) b)
 | [],done,b,h=>by simpa using h
 | p::L,done,b,h=>by
  have:=qiS B L (done++[p]) _ (qpm B done b p h)
  simpa using this
theorem qeW {B:Nat × Nat→Int} {F:Nat→Nat × Nat→Bool} {Y:Nat} {L:List (Nat × Nat)} (hK:qor B F Y L):finF (L.foldl (upd B) (0,0,-1))=refF (frsG F L Y 0)∧(frsG F L Y 0).2.2.2=L.any (fun p=>decide (0≤B p)):=by
 have hI:=qiS B L [] (0,0,-1) (.inl ⟨by decide,fun p hp=>by simp at hp⟩)
 rw [List.nil_append] at hI
 rcases hI with ⟨h1,h2⟩|⟨pre,z,post,h1,h2,h3,h4,h5⟩
 ·
  have hn:∀ (d y:Nat),y+d=Y→frsG F L d y=(0,0,0,false):=by
   intro d
   induction d with
   | zero=>intro y hy;rfl
   | succ d ih =>
    intro y hy
    have hf:L.find? (F y)=none:=by
     rw [List.find?_eq_none];intro p hp
     rcases hK p hp with ⟨g1,g2⟩|⟨j,g1,g2,_⟩
     ·
      rw [g2 y (by omega)];decide
     ·
      have:=h2 p hp;omega
    rw [frsG,hf]
    exact ih (y+1) (by omega)
  rw [hn Y 0 (by omega)]
  constructor
  ·
   unfold finF
   rw [if_pos h1]
   rfl
  ·
   symm
   rw [List.any_eq_false]
   intro p hp
   have:=h2 p hp
   simp
   omega
 ·
  have hzL:z∈L:=by rw [h1];simp
  rcases hK z hzL with ⟨g1,_⟩|⟨yy,g1,g2,g3,g4⟩
  ·
   omega
  ·
   have later:∀ p∈L,∀ y,y<yy→F y p=false:=by
    intro p hp y hy
    rcases hK p hp with ⟨k1,k2⟩|⟨j,k1,k2,k3,k4⟩
    ·
     exact k2 y (by omega)
    ·
     refine k4 y ?_;rw [h1,List.mem_append,List.mem_cons] at hp
     rcases hp with hp|hp|hp
     ·
      rcases h4 p hp with g|g<;>omega
     ·
      rw [hp] at k2;omega
     ·
      rcases h5 p hp with g|g<;>omega
   have hn:∀ (d y:Nat),y+d=Y→y≤yy→frsG F L d y=((z.1:Int),(z.2:Int),(yy:Int),true):=by
    intro d
    induction d with
    | zero=>intro y hy hyy;omega
    | succ d ih =>
     intro y hy hyy
     by_cases he:y=yy
     ·
      subst he
      have hf:L.find? (F y)=some z:=by
       rw [h1,List.find?_append,List.find?_eq_none.2 ?_,List.find?_cons,g3]
       ·
        rfl
       ·
        intro p hp
        rcases hK p (by rw [h1];simp [hp]) with ⟨k1,k2⟩|⟨j,k1,k2,k3,k4⟩
        ·
         rw [k2 y (by omega)];decide
        ·
         rw [k4 y (by rcases h4 p hp with g|g<;>omega)];decide
      rw [frsG,hf]
      rfl
     ·
      have hf:L.find? (F y)=none:=by
       rw [List.find?_eq_none];intro p hp;rw [later p hp y (by omega)]
       decide
      rw [frsG,hf]
      exact ih (y+1) (by omega) (by omega)
   rw [hn Y 0 (by omega) (by omega),h2]
   constructor
   ·
    unfold finF refF;rw [if_neg (by simp only;omega)];simp only [if_true,g2]
   ·
    symm
    rw [List.any_eq_true]
    exact ⟨z,hzL,decide_eq_true h3⟩
section
variable (races:List S39) (keep:List Int) (q:List (List (List Int)))
def tkR (a:Int) (r:Nat):Int:=upT (a*rd keep r)
def UV (p:Nat × Nat):List Int:=Ya (QE q p.2) p.1
def brP (a:Int) (p:Nat × Nat):Int:=brS (Qd races p.1) (tkR keep a p.1) (UV q p)
def Fy (a:Int) (y:Nat) (p:Nat × Nat):Bool:=decide (spw (Qd races p.1) (tkR keep a p.1) (UV q p) y<(Qd races p.1).f3)
def rowL (r:Nat):Nat→Nat→List (Nat × Nat)
 | 0,_=>[]
 | d+1,s=>(r,s)::rowL r d (s+1)
def allL (S:Nat):Nat→Nat→List (Nat × Nat)
 | 0,_=>[]
 | d+1,r=>rowL r S 0++allL S d (r+1)
variable {races keep q} (hf:Fish races keep q)
include hf
theorem qfN (a:Int) (r s:Nat) (hr:r<races.length) (hs:s<q.length):Ev (fun k=>QB.f k races keep q (r:Int) (s:Int) a) (brP races keep q a (r,s)):=by
 have hS:=(hf.ra r hr).1
 have ho:=(qpn hS).1
 have h1:=(hf.se s hs).1
 have h2:=(hf.se s hs).2 r hr
 have hk:=hf.hk
 have hy:=hf.y10
 have h:=qjf (Qd races r).f0 (Qd races r).f1 (Qd races r).f2 (Qd races r).f3 (Qd races r).f4 ho (tkR keep a r) (UV q (r,s)) (by unfold UV;simp only;omega) (UV q (r,s)).length 0 (stt (Qd races r) (tkR keep a r) (UV q (r,s)) 0) rfl (by omega)
 refine Ev.congr (fun k => ?_) h
 simp only [QB.f]
 rw [if_pos (by omega),if_pos (by omega),if_pos (by omega),qo2 _ _ _ _ _ ho.2.1,Option.bind_some,if_pos (by omega),if_pos (by omega),if_pos (by omega)]
 rfl
theorem qqx (a:Int) (r s:Nat) (hr:r<races.length) (hs:s<q.length):(brP races keep q a (r,s) = -1 ∧ ∀ j,j<yrs q→Fy races keep q a j (r,s)=false) ∨
  (∃ j:Nat,j<yrs q∧brP races keep q a (r,s)=(j:Int)∧Fy races keep q a j (r,s)=true ∧ ∀ h,h<j→Fy races keep q a h (r,s)=false):=by
 have h2:(UV q (r,s)).length=yrs q:=(hf.se s hs).2 r hr
 rcases qqw (Qd races r) (tkR keep a r) (UV q (r,s)) (UV q (r,s)).length 0 with ⟨h3,h4⟩|⟨j,h3,h4,h5,h6,h7⟩
 ·
  exact .inl ⟨h3,fun j hj=>decide_eq_false (h4 j (by omega) (by omega))⟩
 ·
  exact .inr ⟨j,by omega,h5,decide_eq_true h6,fun h hh=>decide_eq_false (h7 h (by omega) hh)⟩
theorem qnv (a:Int) (r:Nat) (hr:r<races.length) (b:Bool) (hb:Ev (fun k=>QL.l0 k a (races.length:Int) ((r+1:Nat):Int) races keep q) b):∀ (d s:Nat),s+d=q.length→Ev (fun k=>QL.l1 k a (r:Int) (races.length:Int) (r:Int) (q.length:Int) (s:Int) races keep q) (!(rowL r d s).any (fun p=>decide (0≤brP races keep q a p))&&b):=by
 have h3:=hf.n3
 have h6:=hf.s6
 intro d
 induction d with
 | zero =>
  intro s hs
  have hw:=wr1 r races.length hr (by omega)
  refine Ev.step (fun k => ?_) (by simpa [rowL] using hb)
  simp only [QL.l1,hw]
  rw [if_neg (by omega)]
  rfl
 | succ d ih =>
  intro s hs
  have hw:=wr1 s q.length (by omega) (by omega)
  refine Ev.step (f:=fun k=>(QB.f k races keep q (r:Int) (s:Int) a).bind fun t227=>(if t227≥0 then (some false) else (QL.l1 k a (r:Int) (races.length:Int) (r:Int) (q.length:Int) ((s+1:Nat):Int) races keep q))) (fun k => ?_) (Ev.bind (qfN hf a r s hr (by omega)) ?_)
  ·
   simp only [QL.l1,hw]
   rw [if_pos (by omega)]
  ·
   rw [rowL,List.any_cons]
   by_cases c:0≤brP races keep q a (r,s)
   ·
    rw [decide_eq_true c];simp only [ge_iff_le,if_pos c]
    simpa using Ev.now false
   ·
    rw [decide_eq_false c];simp only [ge_iff_le,if_neg c,Bool.false_or]
    exact ih (s+1) (by omega)
theorem qnu (a:Int):∀ (d r:Nat),r+d=races.length→Ev (fun k=>QL.l0 k a (races.length:Int) (r:Int) races keep q) (!(allL q.length d r).any (fun p=>decide (0≤brP races keep q a p))):=by
 intro d
 induction d with
 | zero =>
  intro r hr
  refine Ev.step (f:=fun _=>some true) (fun k => ?_) (Ev.now _)
  simp only [QL.l0]
  rw [if_neg (by omega)]
 | succ d ih =>
  intro r hr
  have h:=qnv hf a r (by omega) _ (ih (r+1) (by omega)) q.length 0 (by omega)
  rw [allL,List.any_append,Bool.not_or]
  refine Ev.step (fun k => ?_) h
  simp only [QL.l0]
  rw [if_pos (by omega)]
  rfl
theorem qic (a:Int):Ev (fun k=>QL.f k races keep q a) (!(allL q.length races.length 0).any (fun p=>decide (0≤brP races keep q a p))):=qnu hf a races.length 0 (by omega)
theorem qnt (a:Int) (y:Nat) (hy:y<yrs q) (r:Nat) (hr:r<races.length) (R:Fres) (hR:Ev (fun k=>Qk.l1 k a (y:Int) ((r+1:Nat):Int) races keep q) R):∀ (d s:Nat),s+d=q.length→Ev (fun k=>Qk.l3 k a (y:Int) (r:Int) (List.replicate (y+1) (tkR keep a r)) (s:Int) races keep q) (resF y ((rowL r d s).find? (Fy races keep q a y)) R):=by
 have h3:=hf.n3
 have h6:=hf.s6
 intro d
 induction d with
 | zero =>
  intro s hs
  have hw:=wr1 r races.length hr (by omega)
  refine Ev.step (fun k => ?_) hR
  simp only [Qk.l3,hw]
  rw [if_neg (by omega)]
 | succ d ih =>
  intro s hs
  have hs':s<q.length:=by omega
  have hw:=wr1 s q.length (by omega) (by omega)
  have hS:=(hf.ra r hr).1
  have e1:=(hf.se s hs').1
  have e2:(UV q (r,s)).length=yrs q:=(hf.se s hs').2 r hr
  have qzm:=hf.y10
  refine Ev.step (f:=fun k=>(QK.f k (Qd races r).f0 (Qd races r).f1 (Qd races r).f2 (Qd races r).f3 (Qd races r).f4 (List.replicate (y+1) (tkR keep a r)) (UV q (r,s))).bind fun qag=>(if 0≤(y:Int) then (if (y:Int)<(qag.length:Int) then (if (rd qag y)<((Qd races r).f3) then (some ((r:Int),(s:Int),(y:Int),true)) else (Qk.l3 k a (y:Int) (r:Int) (List.replicate (y+1) (tkR keep a r)) ((s+1:Nat):Int) races keep q)) else (none)) else (none))) (fun k => ?_) (Ev.bind (qg3 (Qd races r) hS (tkR keep a r) (UV q (r,s)) y (by omega) (by omega)) ?_)
  ·
   simp only [Qk.l3,hw]
   rw [if_pos (by omega),if_pos (by omega),if_pos (by omega),if_pos (by omega),if_pos (by omega)]
   rfl
  ·
   have g1:(0:Int)≤(y:Int):=by omega
   have g2:(y:Int)<(((List.range' 0 (y+1)).map (spw (Qd races r) (tkR keep a r) (UV q (r,s)))).length:Int):=by simp;omega
   have g3:rd ((List.range' 0 (y+1)).map (spw (Qd races r) (tkR keep a r) (UV q (r,s)))) (y:Int)=spw (Qd races r) (tkR keep a r) (UV q (r,s)) y:=by
    rw [rdI _ y (by simp)];simp
   simp only [if_pos g1,if_pos g2,g3]
   rw [rowL,List.find?_cons]
   by_cases c:spw (Qd races r) (tkR keep a r) (UV q (r,s)) y<(Qd races r).f3
   ·
    have e:Fy races keep q a y (r,s)=true:=decide_eq_true c;rw [e];simp only [if_pos c]
    exact Ev.now _
   ·
    have e:Fy races keep q a y (r,s)=false:=decide_eq_false c;rw [e];simp only [if_neg c]
    exact ih (s+1) (by omega)
theorem qns (a:Int) (ha0:0≤a) (ha1:a≤10001) (y:Nat) (hy:y<yrs q) (r:Nat) (hr:r<races.length) (R:Fres) (hR:Ev (fun k=>Qk.l3 k a (y:Int) (r:Int) (List.replicate (y+1) (tkR keep a r)) ((0:Nat):Int) races keep q) R):∀ (d i:Nat),i+d=y+1→Ev (fun k=>Qk.l2 k a (y:Int) (r:Int) (List.replicate i (tkR keep a r)) (i:Int) races keep q) R:=by
 have qzm:=hf.y10
 intro d
 induction d with
 | zero =>
  intro i hi
  obtain rfl:i=y+1:=by omega
  refine Ev.step (fun k => ?_) hR
  simp only [Qk.l2]
  rw [if_neg (by omega)]
  rfl
 | succ d ih =>
  intro i hi
  have hw:=wr1 i (y+1) (by omega) (by omega)
  refine Ev.step (fun k => ?_) (ih (i+1) (by omega))
  have hk:=hf.hk
  have g:=Uf.1 (hf.ra r hr).2
  have b0:0≤a*rd keep r:=Int.mul_nonneg ha0 g.1
  have b1:a*rd keep r≤10001*100:=Int.mul_le_mul ha1 g.2 g.1 (by decide)
  simp only [Qk.l2,hw]
  rw [if_pos (by omega),if_pos (by omega),if_pos (by omega),qzE _ b0 (by omega),Option.bind_some,if_pos (by simp;omega),List.replicate_succ']
  rfl
theorem qnr (a:Int) (ha0:0≤a) (ha1:a≤10001) (y:Nat) (hy:y<yrs q) (R:Fres) (hR:Ev (fun k=>Qk.l0 k a ((y+1:Nat):Int) races keep q) R):∀ (d r:Nat),r+d=races.length→Ev (fun k=>Qk.l1 k a (y:Int) (r:Int) races keep q) (resF y ((allL q.length d r).find? (Fy races keep q a y)) R):=by
 have h3:=hf.n3
 have qzm:=hf.y10
 intro d
 induction d with
 | zero =>
  intro r hr
  have hw:=wr1 y (y+1) (by omega) (by omega)
  refine Ev.step (fun k => ?_) hR
  simp only [Qk.l1,hw]
  rw [if_neg (by omega)]
 | succ d ih =>
  intro r hr
  have h:=qns hf a ha0 ha1 y hy r (by omega) _ (qnt hf a y hy r (by omega) _ (ih (r+1) (by omega)) q.length 0 (by omega)) (y+1) 0 (by omega)
  have e:resF y ((allL q.length (d+1) r).find? (Fy races keep q a y)) R=resF y ((rowL r q.length 0).find? (Fy races keep q a y)) (resF y ((allL q.length d (r+1)).find? (Fy races keep q a y)) R):=by
   rw [allL,List.find?_append]
   cases (rowL r q.length 0).find? (Fy races keep q a y)<;>rfl
  rw [e]
  refine Ev.step (fun k => ?_) h
  simp only [Qk.l1]
  rw [if_pos (by omega)]
  rfl
theorem qnq (a:Int) (ha0:0≤a) (ha1:a≤10001):∀ (d y:Nat),y+d=yrs q→Ev (fun k=>Qk.l0 k a (y:Int) races keep q) (frsG (Fy races keep q a) (allL q.length races.length 0) d y):=by
 intro d
 induction d with
 | zero =>
  intro y hy
  refine Ev.step (f:=fun _=>some (0,0,0,false)) (fun k => ?_) (Ev.now _)
  simp only [Qk.l0,qdb,Option.bind_some]
  rw [if_neg (by omega)]
 | succ d ih =>
  intro y hy
  have h:=qnr hf a ha0 ha1 y (by omega) _ (ih (y+1) (by omega)) races.length 0 (by omega)
  refine Ev.step (fun k => ?_) h
  simp only [Qk.l0,qdb,Option.bind_some]
  rw [if_pos (by omega)]
  rfl
theorem qeR (a:Int) (ha0:0≤a) (ha1:a≤10001):Ev (fun k=>Qk.f k races keep q a) (frsG (Fy races keep q a) (allL q.length races.length 0) (yrs q) 0):=qnq hf a ha0 ha1 (yrs q) 0 (by omega)
theorem qnp (a:Int) (r:Nat) (hr:r<races.length) (R:Int × Int × Int × Int):∀ (d s:Nat) (b:Int × Int × Int),s+d=q.length→Ev (fun k=>Yc.l0 k a ((rowL r d s).foldl (upd (brP races keep q a)) b).1 ((rowL r d s).foldl (upd (brP races keep q a)) b).2.1 ((rowL r d s).foldl (upd (brP races keep q a)) b).2.2 (races.length:Int) ((r+1:Nat):Int) races keep q) R →
  Ev (fun k=>Yc.l1 k a b.1 b.2.1 b.2.2 (r:Int) (races.length:Int) (r:Int) (q.length:Int) (s:Int) races keep q) R:=by
 have h3:=hf.n3
 have h6:=hf.s6
 intro d
 induction d with
 | zero =>
  intro s b hs h
  have hw:=wr1 r races.length hr (by omega)
  refine Ev.step (fun k => ?_) h
  simp only [Yc.l1,hw]
  rw [if_neg (by omega)]
  rfl
 | succ d ih =>
  intro s b hs h
  have hw:=wr1 s q.length (by omega) (by omega)
  have h':=ih (s+1) (upd (brP races keep q a) b (r,s)) (by omega) h
  refine Ev.step (f:=fun k=>(QB.f k races keep q (r:Int) (s:Int) a).bind fun t236=>(if t236≥0 then (if b.2.2<0 then (Yc.l1 k a (r:Int) (s:Int) t236 (r:Int) (races.length:Int) (r:Int) (q.length:Int) ((s+1:Nat):Int) races keep q) else (if t236<b.2.2 then (Yc.l1 k a (r:Int) (s:Int) t236 (r:Int) (races.length:Int) (r:Int) (q.length:Int) ((s+1:Nat):Int) races keep q) else (Yc.l1 k a b.1 b.2.1 b.2.2 (r:Int) (races.length:Int) (r:Int) (q.length:Int) ((s+1:Nat):Int) races keep q))) else (Yc.l1 k a b.1 b.2.1 b.2.2 (r:Int) (races.length:Int) (r:Int) (q.length:Int) ((s+1:Nat):Int) races keep q))) (fun k => ?_) (Ev.bind (qfN hf a r s hr (by omega)) ?_)
  ·
   simp only [Yc.l1,hw]
   rw [if_pos (by omega)]
  ·
   unfold upd at h'
   by_cases c1:brP races keep q a (r,s)≥0
   ·
    by_cases c2:b.2.2<0
    ·
     simp only [if_pos c1,if_pos c2] at h' ⊢
     exact h'
    ·
     by_cases c3:brP races keep q a (r,s)<b.2.2
     ·
      simp only [if_pos c1,if_neg c2,if_pos c3] at h' ⊢
      exact h'
     ·
      simp only [if_pos c1,if_neg c2,if_neg c3] at h' ⊢
      exact h'
   ·
    simp only [if_neg c1] at h' ⊢
    exact h'
theorem qno (a:Int):∀ (d r:Nat) (b:Int × Int × Int),r+d=races.length→Ev (fun k=>Yc.l0 k a b.1 b.2.1 b.2.2 (races.length:Int) (r:Int) races keep q) (finF ((allL q.length d r).foldl (upd (brP races keep q a)) b)):=by
 intro d
 induction d with
 | zero =>
  intro r b hr
  refine Ev.step (f:=fun _=>some (finF b)) (fun k => ?_) (Ev.now _)
  simp only [Yc.l0]
  rw [if_neg (by omega)]
  unfold finF
  split<;>rfl
 | succ d ih =>
  intro r b hr
  have h:=qnp hf a r (by omega) _ q.length 0 b (by omega) (ih (r+1) ((rowL r q.length 0).foldl (upd (brP races keep q a)) b) (by omega))
  rw [allL,List.foldl_append]
  refine Ev.step (fun k => ?_) h
  simp only [Yc.l0]
  rw [if_pos (by omega)]
  rfl
theorem qoF (S:Nat):∀ (d r:Nat) (p:Nat × Nat),p∈allL S d r→p.1<r+d∧p.2<S:=by
 have hrow:∀ (r d s:Nat) (p:Nat × Nat),p∈rowL r d s→p.1=r∧p.2<s+d:=by
  intro r d
  induction d with
  | zero=>intro s p h;simp [rowL] at h
  | succ d ih =>
   intro s p h
   rw [rowL,List.mem_cons] at h
   rcases h with rfl|h
   ·
    exact ⟨rfl,by simp only;omega⟩
   ·
    have:=ih (s+1) p h;omega
 intro d
 induction d with
 | zero=>intro r p h;simp [allL] at h
 | succ d ih =>
  intro r p h
  rw [allL,List.mem_append] at h
  rcases h with h|h
  ·
   have:=hrow r S 0 p h;omega
  ·
   have:=ih (r+1) p h;omega
theorem qpr (a:Int):qor (brP races keep q a) (Fy races keep q a) (yrs q) (allL q.length races.length 0):=fun p hp=>by
 have h:=qoF hf q.length races.length 0 p hp
 exact qqx hf a p.1 p.2 (by omega) h.2
theorem bis (d:Nat):∀ lo hi:Int,hi-lo≤d→0≤lo→lo<hi→hi≤10001 → ∃ v,Ev (fun k=>YI.l0 k lo hi races keep q) v∧Ev (fun k=>QX.l0 k lo hi races keep q) v:=by
 induction d with
 | zero=>intro lo hi h1 h2 h3 h4;omega
 | succ d ih =>
  intro lo hi h1 h2 h3 h4
  have e1:wrap64 (hi-lo)=hi-lo:=by unfold wrap64;omega
  have e2:wrap64 (lo+hi)=lo+hi:=by unfold wrap64;omega
  have e3:wrap64 (Int.tdiv (wrap64 (lo+hi)) 2)=(lo+hi) / 2:=by
   rw [e2,Int.tdiv_eq_ediv_of_nonneg (by omega)]
   unfold wrap64
   omega
  by_cases c:hi-lo>1
  ·
   have hH:=qic hf ((lo+hi) / 2)
   have hG:=qeR hf ((lo+hi) / 2) (by omega) (by omega)
   have hK:=(qeW (qpr hf ((lo+hi) / 2))).2
   cases hx:(allL q.length races.length 0).any (fun p=>decide (0≤brP races keep q ((lo+hi) / 2) p)) with
   | true =>
    rw [hx] at hH hK;obtain ⟨v,v1,v2⟩:=ih lo ((lo+hi) / 2) (by omega) (by omega) (by omega) (by omega);refine ⟨v,Ev.step (f:=fun k=>(QL.f k races keep q ((lo+hi) / 2)).bind fun qjk=>(if qjk=true then (YI.l0 k ((lo+hi) / 2) hi races keep q) else (YI.l0 k lo ((lo+hi) / 2) races keep q))) (fun k => ?_) (Ev.bind hH ?_),Ev.step (f:=fun k=>(Qk.f k races keep q ((lo+hi) / 2)).bind fun qh8=>(if qh8.2.2.2=true then (QX.l0 k lo ((lo+hi) / 2) races keep q) else (QX.l0 k ((lo+hi) / 2) hi races keep q))) (fun k => ?_) (Ev.bind hG ?_)⟩
    ·
     simp only [YI.l0,e1,e3];rw [if_pos c]
    ·
     simpa using v1
    ·
     simp only [QX.l0,e1,e3];rw [if_pos c]
    ·
     simp only [hK,if_true]
     exact v2
   | false =>
    rw [hx] at hH hK;obtain ⟨v,v1,v2⟩:=ih ((lo+hi) / 2) hi (by omega) (by omega) (by omega) (by omega);refine ⟨v,Ev.step (f:=fun k=>(QL.f k races keep q ((lo+hi) / 2)).bind fun qjk=>(if qjk=true then (YI.l0 k ((lo+hi) / 2) hi races keep q) else (YI.l0 k lo ((lo+hi) / 2) races keep q))) (fun k => ?_) (Ev.bind hH ?_),Ev.step (f:=fun k=>(Qk.f k races keep q ((lo+hi) / 2)).bind fun qh8=>(if qh8.2.2.2=true then (QX.l0 k lo ((lo+hi) / 2) races keep q) else (QX.l0 k ((lo+hi) / 2) hi races keep q))) (fun k => ?_) (Ev.bind hG ?_)⟩
    ·
     simp only [YI.l0,e1,e3];rw [if_pos c]
    ·
     simpa using v1
    ·
     simp only [QX.l0,e1,e3];rw [if_pos c]
    ·
     simp only [hK,if_false]
     exact v2
  ·
   refine ⟨(lo,0),Ev.step (f:=fun _=>some (lo,0)) (fun k => ?_) (Ev.now _),Ev.step (f:=fun _=>some (lo,0)) (fun k => ?_) (Ev.now _)⟩
   ·
    simp only [YI.l0,e1];rw [if_neg c]
   ·
    simp only [QX.l0,e1];rw [if_neg c]
end
section
variable (races:List S39) (keep:List Int) (q:List (List (List Int))) (hq:LB q) (hkl:keep.length≤9223372036854775807)
include hq hkl
theorem qbu:Ev (fun k=>Qj.f k races keep q) (cres (okA races keep q))∧Ev (fun k=>Qb.f k races keep q) (cres (okA races keep q)) :=
 ⟨qe7 races keep q hq,by rw [qzt];exact qg2 races keep q hq hkl⟩
theorem qkL:∃ v,Ev (fun k=>YI.f k races keep q) v∧Ev (fun k=>QX.f k races keep q) v:=by
 obtain ⟨c1,c2⟩:=qbu races keep q hq hkl
 cases h:okA races keep q with
 | false =>
  rw [h] at c1 c2
  exact ⟨(0,93),Ev.bind c1 (Ev.now _),Ev.bind c2 (Ev.now _)⟩
 | true =>
  rw [h] at c1 c2
  have hf:=qlx h
  have hH:=qic hf 0
  have hG:=qeR hf 0 (by omega) (by omega)
  have hK:=(qeW (qpr hf 0)).2
  cases hx:(allL q.length races.length 0).any (fun p=>decide (0≤brP races keep q 0 p)) with
  | true =>
   rw [hx] at hH hK
   refine ⟨(0,4),Ev.bind c1 (Ev.bind hH (Ev.now _)),Ev.bind c2 (Ev.bind hG ?_)⟩
   simp only [hK,if_true]
   exact Ev.now _
  | false =>
   rw [hx] at hH hK
   obtain ⟨v,v1,v2⟩:=bis hf 10001 0 10001 (by omega) (by omega) (by omega) (by omega)
   refine ⟨v,Ev.bind c1 (Ev.bind hH v1),Ev.bind c2 (Ev.bind hG ?_)⟩
   simp only [hK]
   exact v2
theorem qjY (a:Int):∃ v,Ev (fun k=>Yc.f k races keep q a) v∧Ev (fun k=>Zl.f k races keep q a) v:=by
 obtain ⟨c1,c2⟩:=qbu races keep q hq hkl
 cases h:okA races keep q with
 | false =>
  rw [h] at c1 c2
  exact ⟨(0,0,0,93),Ev.bind c1 (Ev.now _),Ev.bind c2 (Ev.now _)⟩
 | true =>
  rw [h] at c1 c2
  have hf:=qlx h
  cases hw:wi a 0 10000 with
  | false =>
   refine ⟨(0,0,0,7),Ev.bind c1 ?_,Ev.bind c2 ?_⟩
   ·
    simp only [GC,hw]
    exact Ev.now _
   ·
    simp only [qaJ,hw]
    exact Ev.now _
  | true =>
   have g:=Uf.1 hw
   have hG:=qeR hf a (by omega) (by omega)
   have hK:=(qeW (qpr hf a)).1
   refine ⟨finF ((allL q.length races.length 0).foldl (upd (brP races keep q a)) (0,0,-1)),Ev.bind c1 ?_,Ev.bind c2 ?_⟩
   ·
    simp only [GC,hw,Option.bind_some]
    exact qno hf a races.length 0 (0,0,-1) (by omega)
   ·
    simp only [qaJ,hw,Option.bind_some];rw [hK];refine Ev.bind hG ?_;unfold refF
    split<;>exact Ev.now _
end
theorem StockQuotas (races:List S39) (keep:List Int) (q:List (List (List Int))) (a:Int) (h1:∀ x∈races,W39 x) (h2:WL keep) (h3:∀ x∈q,∀ y∈x,WL y) (hkl:keep.length≤9223372036854775807) (hq:LB q) (ha:Wf a):∃ k,QA.f k races keep q a=some true:=by
 obtain ⟨v,v1,v2⟩:=qkL races keep q hq hkl
 obtain ⟨u,u1,u2⟩:=qjY races keep q hq hkl a
 obtain ⟨c1,c2⟩:=qbu races keep q hq hkl
 refine Ev.rounds (Ev.bind v1 (Ev.bind v2 ?_))
 simp only [if_true]
 refine Ev.bind c1 (Ev.bind c2 ?_)
 refine Ev.step (f:=fun k=>(Yc.f k races keep q a).bind fun WN=>((Zl.f k races keep q a).bind fun U2=>(if WN.1=U2.1 then (if WN.2.1=U2.2.1 then (if WN.2.2.1=U2.2.2.1 then (if WN.2.2.2=U2.2.2.2 then ((ZS.f).bind fun qdV=>(some qdV)) else (some false)) else (some false)) else (some false)) else (some false)))) (fun k => ?_) (Ev.bind u1 (Ev.bind u2 ?_))
 ·
  simp [QA.j0]
 ·
  refine ⟨0,fun k _ => ?_⟩
  simp [ZS.f]
end
end Go.Proofs.Ytmhomdohhihlcaa.P
