/- What the statement StockSpread leans on, part 5 of 5: contracts of the program's functions; conditions: none. -/
import Derived.Deep.RegionHeld3
import Derived.Deep.Slices
import Derived.ChangeSame
import Derived.OpenShut
import Derived.SizedLaws
import Derived.Lib.SmallJoins
import Derived.Test.YtmhomdohhihlcaaStockSpreadx0
import Derived.Test.YtmhomdohhihlcaaStockSpreadx1
import Derived.Test.YtmhomdohhihlcaaStockSpreadx2
import Derived.Test.YtmhomdohhihlcaaStockSpreadx3
set_option linter.unusedVariables false
set_option linter.unusedSimpArgs false
set_option linter.constructorNameAsVariable false
set_option linter.unusedSectionVars false
namespace Go.Proofs.Ytmhomdohhihlcaa.P
open Go.RowKit Go.Proofs.YtmhomdohhihlcaaW.PrintWords Go.Proofs.YtmhomdohhihlcaaW.PrintLast Go.Proofs.YtmhomdohhihlcaaW.PrintMore
section
set_option maxRecDepth 100000
def qc8:List S68:=[⟨30,⟨2,2⟩⟩,⟨20,⟨3,4⟩⟩,⟨10,⟨4,6⟩⟩]
def qem:List (List S25):=[[⟨60,70⟩,⟨30,40⟩],[⟨20,30⟩,⟨70,80⟩]]
def qhp:List S25:=[⟨45,50⟩,⟨50,55⟩]
def qc0:S39:=⟨[100,50,20],[800,700,500],[0,1,2],60,1⟩
def qc7:S39:=⟨[60,60],[500,500],[1,1],50,0⟩
def qlG:List J8:=[⟨50,8⟩,⟨30,5⟩,⟨20,1⟩,⟨10,4⟩]
def qel:List (List Int):=[[0,1],[1,2],[2,3]]
def Wc:List (List (List Int)):=[[[90,80],[10,10]],[[0,0],[0,0]]]
theorem qj8:Gb.f=some qc8:=by kernel_rfl
theorem qlN:Gp.f=some qem:=by kernel_rfl
theorem qnb:Gy.f=some qhp:=by kernel_rfl
theorem qj7:J4.f=some ([100,50,20],[800,700,500],[0,1,2],60,1):=by kernel_rfl
theorem qc9:JF.f=some ([qc0,qc7],[40,80],Wc):=by kernel_rfl
theorem qqJ:K2.f=some qlG:=by kernel_rfl
theorem qlM:Gn.f=some qel:=by kernel_rfl
theorem qm9:QY.f 40 qc8 4 6=some (10,30,0):=by kernel_rfl
theorem qna:QM.f 20 [100,50,20] [800,700,500] [0,1,2] 60 1 [30,30] [90,80]=some ([40,78],0):=by kernel_rfl
theorem qlJ:Zs.f 40 [qc0,qc7] [40,80] Wc=some (7,0):=by kernel_rfl
theorem qlI:YW.f 40 [qc0,qc7] [40,80] Wc 8=some (1,1,1,0):=by kernel_rfl
theorem qlK:Z7.f 10 [40,78] [40,78]=some true:=by kernel_rfl
theorem qlL:Z7.f 10 [0,2] [0,2]=some true:=by kernel_rfl
theorem qen:YZ.f 10 [⟨38,75⟩,⟨25,62⟩] [⟨38,75⟩,⟨25,62⟩]=some true:=by kernel_rfl
theorem qlH:QH.f qlG qel 2=some ([0,2],110,18,0):=by kernel_rfl
theorem qj6:Qr.f 20 qem qhp=some ([⟨38,75⟩,⟨25,62⟩],0):=by kernel_rfl
end
section
attribute [local go_sem high] qlD
def ZE.f:Option Bool:=some true
structure qle (p:Prop):Prop where
 out:p
theorem V_C {α:Type} {d:Kd α} {e:Nat} {w:World} {b:Nat} {ok:Nat→Prop} {v:Value} {xs:List α} (h:Kd.V d e w b ok v xs):∃ A c,v = .slice A xs.length c∧xs.length≤c∧Kd.C d w A xs.length xs:=by
 obtain ⟨A,c,hv,hl,hf⟩:=h
 exact ⟨A,c,hv,hl,Kd.F_now hf⟩
theorem qfO {W:World} {o:Obj} {k:Nat} (h:W.heap.size=k):(W.alloc o).heap[k]? = some o:=by subst h;exact World.alloc_heap_new W o
theorem qit {W:World} {g:Nat} {a b:Int} (h:W.heap[g]? = some (.cells #[.int .i64 a,.int .i64 b] 3 (0,0))):Kd.C (Kd.int .i64) W (some ⟨g,0,none⟩) 2 [a,b]:=by
 refine ⟨rfl,by decide,fun _=>⟨_,rfl,fun j p hj=>⟨[.int .i64 p],rfl,rfl,fun i u hu => ?_⟩⟩⟩
 have hj2:j<2:=(List.getElem?_eq_some_iff.1 hj).1
 have hi:i=0:=by have:=(List.getElem?_eq_some_iff.1 hu).1;simpa using this
 subst hi
 have hu2:Value.int .i64 p=u:=by simpa using hu
 rw [K1,Q9 h]
 subst hu2
 match j,hj2,hj with
 | 0,_,hj=>cases hj;rfl
 | 1,_,hj=>cases hj;rfl
theorem qmR {W:World} {g:Nat} {a b a' b':Int} (h:W.heap[g]? = some (.cells #[.int .i64 a,.int .i64 b,.int .i64 a',.int .i64 b'] 25 (0,0))):Kd.C k25 W (some ⟨g,0,none⟩) 2 [⟨a,b⟩,⟨a',b'⟩]:=by
 refine ⟨rfl,by decide,fun _=>⟨_,rfl,fun j p hj=>⟨[.int .i64 p.f0,.int .i64 p.f1],rfl,ql9 _ _,fun i u hu => ?_⟩⟩⟩
 have hj2:j<2:=(List.getElem?_eq_some_iff.1 hj).1
 have hi:i<2:=(List.getElem?_eq_some_iff.1 hu).1
 rw [K1,Q9 h]
 match j,hj2,hj,i,hi,hu with
 | 0,_,hj,0,_,hu=>cases hj;cases hu;rfl
 | 0,_,hj,1,_,hu=>cases hj;cases hu;rfl
 | 1,_,hj,0,_,hu=>cases hj;cases hu;rfl
 | 1,_,hj,1,_,hu=>cases hj;cases hu;rfl
set_option maxHeartbeats 8000000 in
set_option maxRecDepth 100000 in
theorem ZE.calls (r:Bool) (w:World) (h:ZE.f=some r) :
  Calls Try.prog 21 #[] w fun e w'=>e = .returned (.bool r)∧Below w.heap.size w w':=by
 obtain rfl:true=r:=Option.some.inj h
 clear h
 have Xc:=Try.underlying25
 go_enter Try.func21,Try.ntmps21
 have B0:=Below.refl w.heap.size w
 go_wp2_with (first
  | (go_at_call 59;refine (Gb.calls _ _ qj8).mono ?_;rintro e w1 ⟨v,rfl,hv,hb1⟩;obtain ⟨A1,c1,rfl,hc1,hC1⟩:=Kd.R_reads hv;have B1:=B0.trans (hb1.mono B0.size);clear hv hb1)
  | (go_at_call 19;refine (QY.calls 40 A1 c1 qc8 4 6 10 30 0 _ hC1 hc1 qm9).mono ?_;rintro e w2 ⟨rfl,hb2⟩;have B2:=B1.trans (hb2.mono B1.size);clear hC1 hc1 hb2)
  | (go_at_call 61;refine (Gp.calls _ _ qlN).mono ?_;rintro e w3 ⟨v,rfl,hv,hb3⟩;obtain ⟨A3,c3,rfl,hc3,hC3⟩:=Kd.N_reads hv;have B3:=(Q2 B2 _).trans (hb3.mono (Q2 B2 _).size);have K3:=Qp (World.alloc_heap_new w2 _) hb3;clear hv)
  | (go_at_call 60;refine (Gy.calls _ _ qnb).mono ?_;rintro e w4 ⟨v,rfl,hv,hb4⟩;obtain ⟨A4,c4,rfl,hc4,hC4⟩:=Kd.R_reads hv;have B4:=B3.trans (hb4.mono B3.size);have qtb:=Kd.C_below hC3 hb4;have K4:=Qp K3 hb4;clear hv)
  | (go_at_call 22;refine (Qr.calls 20 A3 c3 qem A4 c4 qhp [⟨38,75⟩,⟨25,62⟩] 0 _ qtb hc3 hC4 hc4 qj6).mono ?_;rintro e w5 ⟨v,rfl,hv,hb5⟩;obtain ⟨A5,c5,rfl,hc5,hC5⟩:=V_C hv;have B5:=B4.trans (hb5.mono B4.size);have K5:=Qp K4 hb5;clear K3 K4 hC3 qtb hC4 hc3 hc4 hv hb3 hb4 hb5)
  | (go_at_call 57;refine (J4.calls _ _ _ _ _ _ qj7).mono ?_;rintro e w6 ⟨u0,u1,u2,rfl,h0,h1,h2,hb6⟩;obtain ⟨A60,c60,rfl,qtq,qtg⟩:=Kd.R_reads h0;obtain ⟨A61,c61,rfl,qtr,qth⟩:=Kd.R_reads h1;obtain ⟨A62,c62,rfl,qts,qti⟩:=Kd.R_reads h2;have B6:=B5.trans (hb6.mono B5.size);have K6:=Qp K5 hb6;have qtc:=Kd.C_below hC5 hb6;clear K5 h0 h1 h2 hC5 hb6)
  | (go_at_call 25;refine (QM.calls 20 A60 c60 [100,50,20] A61 c61 [800,700,500] A62 c62 [0,1,2] 60 1 _ 2 [30,30] _ 2 [90,80] [40,78] 0 _ ?q1 qtq ?q2 qtr ?q3 qts ?q4 (Nat.le_refl 2) ?q5 (Nat.le_refl 2) qna).mono ?_;(case q1=>exact Kd.C_alloc (Kd.C_alloc qtg _) _);(case q2=>exact Kd.C_alloc (Kd.C_alloc qth _) _);(case q3=>exact Kd.C_alloc (Kd.C_alloc qti _) _);(case q4=>exact qit (Q3 (World.alloc_heap_new w6 _) _));(case q5=>refine qit ?_;(have:=World.alloc_heap_new (w6.alloc (.cells #[.int .i64 30,.int .i64 30] 3)) (.cells #[.int .i64 90,.int .i64 80] 3));rwa [World.size_alloc] at this);rintro e w7 ⟨v,rfl,hv,hb7⟩;obtain ⟨A7,c7,rfl,hc7,hC7⟩:=V_C hv;have B7:=(Q2 (Q2 B6 _) _).trans (hb7.mono (Q2 (Q2 B6 _) _).size);have K7:=Qp (Q3 (Q3 K6 _) _) hb7;have qtd:=Kd.C_below (Kd.C_alloc (Kd.C_alloc qtc _) _) hb7;clear qtg qth qti qtq qtr qts qtc K6 hv hb7)
  | (go_at_call 58;refine (JF.calls _ _ _ _ qc9).mono ?_;rintro e w8 ⟨u0,u1,u2,rfl,h0,h1,h2,hb8⟩;obtain ⟨A80,c80,rfl,qlR,qlO⟩:=Kd.N_reads h0;obtain ⟨A81,c81,rfl,qlS,qlP⟩:=Kd.R_reads h1;obtain ⟨A82,c82,rfl,qlT,qlQ⟩:=Kd.N_reads h2;have B8:=B7.trans (hb8.mono B7.size);have K8:=Qp K7 hb8;have qte:=Kd.C_below qtd hb8;have qtk:=Kd.C_below hC7 hb8;clear h0 h1 h2 qtd hC7 K7 hb8)
  | (go_at_call 28;refine (Zs.calls 40 A80 c80 [qc0,qc7] A81 c81 [40,80] A82 c82 Wc 7 0 _ qlO qlR qlP qlS qlQ qlT qlJ).mono ?_;rintro e w9 ⟨rfl,hb9⟩;have B9:=B8.trans (hb9.mono B8.size);have K9:=Qp K8 hb9;have qtf:=Kd.C_below qte hb9;have qtl:=Kd.C_below qtk hb9;clear qlO qlP qlQ qlR qlS qlT qte qtk K8 hb9))
 have hSb:∀ z:World,Below w9.heap.size w9 z→z.cell? ⟨w2.heap.size,0,none⟩=some (.int .i64 10)∧z.cell? ⟨w2.heap.size,1,none⟩=some (.int .i64 30)∧Below w9.heap.size w9 z:=fun z hz =>
  ⟨(Q9 (Qp K9 hz) 0).trans rfl,(Q9 (Qp K9 hz) 1).trans rfl,hz⟩
 have HSb:=Q0.mk hSb
 have H59:=Q0.mk qtf
 have H79:=Q0.mk qtl
 have HB9:=Q0.mk B9
 clear hSb qtf qtl B0 B1 B2 B3 B4 B5 B6 B7 B8 B9 K9
 go_region_held3 (fun z=>z.cell? ⟨w2.heap.size,0,none⟩=some (.int .i64 10)∧z.cell? ⟨w2.heap.size,1,none⟩=some (.int .i64 30)∧Below w9.heap.size w9 z)
  (first|exact HSb.out _ (Yu (Below.refl _ _))|(refine HSb.out _ (Q2 ?hk _);(case hk=>exact (And.right (And.right ‹_∧_∧Below w9.heap.size w9 _›))))|(refine HSb.out _ (Q1 ?hk _);(case hk=>exact (And.right (And.right ‹_∧_∧Below w9.heap.size w9 _›))))|(refine HSb.out _ (Below.trans ?hk1 (hbz.mono ?hk2));(case hk1=>exact (And.right (And.right ‹_∧_∧Below w9.heap.size w9 _›)));(case hk2=>exact (And.right (And.right ‹_∧_∧Below w9.heap.size w9 _›)).size)))
  (first
   | (go_at_call 43;refine (QB.calls _ _ _ _ _ rfl).mono ?_;rintro e wz ⟨rfl,hbz⟩)
   | (go_at_call 24;refine (YZ.calls 10 A5 c5 [⟨38,75⟩,⟨25,62⟩] _ 2 [⟨38,75⟩,⟨25,62⟩] true _ ?q1 hc5 ?q2 (Nat.le_refl 2) qen).mono ?_;(case q1=>refine Kd.C_below H59.out ?hk;(case hk=>exact (And.right (And.right ‹_∧_∧Below w9.heap.size w9 _›))));(case q2=>refine qmR ?_;exact World.alloc_heap_new _ _);rintro e wz ⟨rfl,⟨nd,rfl⟩⟩)
   | (go_at_call 27;refine (Z7.calls 10 A7 c7 [40,78] _ 2 [40,78] true _ ?q1 hc7 ?q2 (Nat.le_refl 2) qlK).mono ?_;(case q1=>refine Kd.C_below H79.out ?hk;(case hk=>exact (And.right (And.right ‹_∧_∧Below w9.heap.size w9 _›))));(case q2=>refine qit (qfO ?hs);(case hs=>first|rfl|exact World.size_alloc _ _));rintro e wz ⟨rfl,⟨nd,rfl⟩⟩))
 go_wp2_with (go_at_call 58;refine qle.out ?_)
 refine qle.mk ?_
 refine (JF.calls _ _ _ _ qc9).mono ?_
 rintro e wa ⟨u0,u1,u2,rfl,h0,h1,h2,hba⟩
 have Ba:Below w.heap.size w wa:=by
  refine Below.trans ?_ (hba.mono ?_)
  · exact HB9.out.trans ((And.right (And.right ‹_∧_∧Below w9.heap.size w9 _›)).mono HB9.out.size)
  · exact (HB9.out.trans ((And.right (And.right ‹_∧_∧Below w9.heap.size w9 _›)).mono HB9.out.size)).size
 obtain ⟨A80,c80,rfl,qlR,qlO⟩:=Kd.N_reads h0
 obtain ⟨A81,c81,rfl,qlS,qlP⟩:=Kd.R_reads h1
 obtain ⟨A82,c82,rfl,qlT,qlQ⟩:=Kd.N_reads h2
 clear h0 h1 h2 hba
 go_wp2_with (first
  | (go_at_call 32;refine (YW.calls 40 A80 c80 [qc0,qc7] A81 c81 [40,80] A82 c82 Wc 8 1 1 1 0 _ qlO qlR qlP qlS qlQ qlT qlI).mono ?_;rintro e wb ⟨rfl,hbb⟩;have Bb:=Ba.trans (hbb.mono Ba.size);clear qlO qlP qlQ qlR qlS qlT hbb)
  | (go_at_call 62;refine (K2.calls _ _ qqJ).mono ?_;rintro e wc ⟨v,rfl,hv,hbc⟩;obtain ⟨Ac,cc,rfl,hcc,hCc⟩:=Kd.R_reads hv;have Bc:=Bb.trans (hbc.mono Bb.size);clear hv hbc)
  | (go_at_call 63;refine (Gn.calls _ _ qlM).mono ?_;rintro e wd ⟨v,rfl,hv,hbd⟩;obtain ⟨Ad,cd,rfl,hcd,hCd⟩:=Kd.N_reads hv;have Bd:=Bc.trans (hbd.mono Bc.size);have hCc':=Kd.C_below hCc hbd;clear hv hbd hCc)
  | (go_at_call 40;refine (QH.calls Ac cc qlG Ad cd qel 2 [0,2] 110 18 0 _ hCc' hcc hCd hcd qlH).mono ?_;rintro e we ⟨v,rfl,hv,hbe⟩;obtain ⟨Ae,ce,rfl,hce,hCe⟩:=V_C hv;have Be:=Bd.trans (hbe.mono Bd.size);clear hv hbe hCc' hCd hcc hcd)
  | (go_at_call 27;refine (Z7.calls 10 Ae ce [0,2] _ 2 [0,2] true _ ?q1 hce ?q2 (Nat.le_refl 2) qlL).mono ?_;(case q1=>exact Kd.C_alloc hCe _);(case q2=>refine qit (qfO ?hs);(case hs=>rfl));rintro e wf ⟨rfl,⟨ndf,rfl⟩⟩))
 go_ret
 exact ⟨rfl,Q1 (Q2 Be _) _⟩
end
section
attribute [local go_sem] YR YU Z8 Z9 YA YC YT YV
mutual
def Q6.j0:Nat→List (List (S25))→List (S25)→List Int→List (S25)→Int→Bool→Option (Bool)
 | 0,_,_,_,_,_,_=>none
 | k+1,x0,x1,x2,x7,x8,x37=>if x37=true then (if x8=91 then (if (x7.length:Int)=0 then ((ZE.f).bind fun qkD=>(some qkD)) else (some false)) else (some false)) else ((Yr.f k (x0.length:Int) x2).bind fun Z2=>(Q6.l0 k x0 x1 x2 x7 x8 Z2 true 0))
def Q6.l0:Nat→List (List (S25))→List (S25)→List Int→List (S25)→Int→List Int→Bool→Int→Option (Bool)
 | 0,_,_,_,_,_,_,_,_=>none
 | k+1,x0,x1,x2,x7,x8,x9,x10,x11=>if x11<(x1.length:Int) then ((QB.f 0 0).bind fun qpO=>(Q6.l1 k x0 x1 x2 x7 x8 x9 x10 x11 0 qpO.1 qpO.2)) else (if x8=0 then (Q6.j3 k x0 x1 x2 x7 x8 x9 x10 ((x7.length:Int) != (x0.length:Int))) else (if x10=true then (Q6.j3 k x0 x1 x2 x7 x8 x9 x10 true) else (if (x7.length:Int)>0 then (Q6.j3 k x0 x1 x2 x7 x8 x9 x10 true) else (Q6.j3 k x0 x1 x2 x7 x8 x9 x10 false))))
def Q6.l1:Nat→List (List (S25))→List (S25)→List Int→List (S25)→Int→List Int→Bool→Int→Int→Int→Int→Option (Bool)
 | 0,_,_,_,_,_,_,_,_,_,_,_=>none
 | k+1,x0,x1,x2,x7,x8,x9,x10,x11,x13,qjV,qjW=>if x13<(x0.length:Int) then (if 0≤x13 then (if x13<(x9.length:Int) then (if 0≤x11 then (if x11<((Yx x0 x13).length:Int) then ((QB.f (wrap64 (qjV+(wrap64 ((rd x9 x13)*((Qo (Yx x0 x13) x11).f0))))) (wrap64 (qjW+(wrap64 ((rd x9 x13)*((Qo (Yx x0 x13) x11).f1)))))).bind fun qpP=>(Q6.l1 k x0 x1 x2 x7 x8 x9 x10 x11 (wrap64 (x13+1)) qpP.1 qpP.2)) else (none)) else (none)) else (none)) else (none)) else (if x10=true then (if 0≤x11 then (if x11<(x1.length:Int) then (if qjV≤(wrap64 (100*((Qo x1 x11).f1))) then (Q6.l0 k x0 x1 x2 x7 x8 x9 (decide (qjW≥(wrap64 (100*((Qo x1 x11).f0))))) (wrap64 (x11+1))) else (Q6.l0 k x0 x1 x2 x7 x8 x9 false (wrap64 (x11+1)))) else (none)) else (none)) else (Q6.l0 k x0 x1 x2 x7 x8 x9 false (wrap64 (x11+1))))
def Q6.j3:Nat→List (List (S25))→List (S25)→List Int→List (S25)→Int→List Int→Bool→Bool→Option (Bool)
 | 0,_,_,_,_,_,_,_,_=>none
 | k+1,x0,x1,x2,x7,x8,x9,x10,qCJ=>if qCJ=true then (some false) else ((some (([]:List (S25)):List (S25))).bind fun qdz=>(if qdz.length+x1.length<8796093022208 then ((some (qdz++x1:List (S25))).bind fun J6=>((YG.f x2 4).bind fun qbS=>((Yk.f qbS (x1.length:Int)).bind fun Zk=>((YG.f x2 5).bind fun Xe=>((Yk.f Xe 10).bind fun KL=>(if 0≤Zk then (if Zk<(J6.length:Int) then ((QB.f (mx 0 (wrap64 (((Qo J6 Zk).f0)-KL))) (mn 100 (wrap64 (((Qo J6 Zk).f1)+KL)))).bind fun G1=>((Qr.f k x0 (J6.set (Zk:Int).toNat (⟨G1.1,G1.2⟩:S25))).bind fun Yw=>(if Yw.2=0 then (Q6.j4 k x7 x9 x10 Yw.1 ((Yw.1.length:Int) != (x0.length:Int))) else (if Yw.2=4 then (if x8=0 then (Q6.j4 k x7 x9 x10 Yw.1 true) else (Q6.j4 k x7 x9 x10 Yw.1 false)) else (Q6.j4 k x7 x9 x10 Yw.1 true))))) else (none)) else (none))))))) else (none)))
def Q6.j4:Nat→List (S25)→List Int→Bool→List (S25)→Bool→Option (Bool)
 | 0,_,_,_,_,_=>none
 | k+1,x7,x9,x10,x17,qCK=>if qCK=true then (some false) else (Q6.l2 k x7 x9 x10 x17 0)
def Q6.l2:Nat→List (S25)→List Int→Bool→List (S25)→Int→Option (Bool)
 | 0,_,_,_,_,_=>none
 | k+1,x7,x9,x10,x17,x19=>if x19<(x7.length:Int) then (if x10=true then (if 0≤x19 then (if x19<(x9.length:Int) then ((ZF.f ((Qo x7 x19).f0) ((Qo x7 x19).f1) (rd x9 x19)).bind fun qkG=>(if qkG=true then (if x19<(x17.length:Int) then (if ((Qo x17 x19).f0)>((Qo x7 x19).f0) then (some false) else (if ((Qo x17 x19).f1)<((Qo x7 x19).f1) then (some false) else (Q6.l2 k x7 x9 x10 x17 (wrap64 (x19+1))))) else (none)) else (some false))) else (none)) else (none)) else (if 0≤x19 then (if x19<(x17.length:Int) then (if ((Qo x17 x19).f0)>((Qo x7 x19).f0) then (some false) else (if ((Qo x17 x19).f1)<((Qo x7 x19).f1) then (some false) else (Q6.l2 k x7 x9 x10 x17 (wrap64 (x19+1))))) else (none)) else (none))) else ((ZE.f).bind fun qo1=>(some qo1))
end
def Q6.f (k:Nat) (l0:List (List (S25))) (l1:List (S25)) (l2:List Int):Option (Bool):=(Qr.f k l0 l1).bind fun Oy=>(if Oy.2=0 then ((Qq.f k l0 l1).bind fun qmz=>(Q6.j0 k l0 l1 l2 Oy.1 Oy.2 (!qmz))) else (if Oy.2=4 then ((Qq.f k l0 l1).bind fun qo0=>(Q6.j0 k l0 l1 l2 Oy.1 Oy.2 (!qo0))) else (Q6.j0 k l0 l1 l2 Oy.1 Oy.2 true)))
def Q6.T13:Bool × List (List Nat × List Nat):=(true,[([],[]),([0],[0]),([],[]),([],[]),([2,3],[2,3]),([4],[4]),([],[]),([],[]),([6,7],[6,7]),([8],[8]),([],[]),([9,10],[9,10]),([11],[11]),([12],[12]),([5,13],[5,13]),([1,14],[1,14]),([],[]),([16],[16]),([],[]),([],[]),([18,19],[18,19]),([20],[20]),([],[]),([],[]),([22,23],[22,23]),([24],[24]),([],[]),([25,26],[25,26]),([27],[27]),([28],[28]),([21,29],[21,29]),([17,30],[17,30]),([15,31],[15,31]),([32,32,0,1,2,3,4,5,6,7,8,9,10,11,12,13,14,15,16,17,18,19,20,21,22,23,24,25,26,27,28,29,30,31,32],[32])])
def Q6.B13:List Nat:=[0,1,0,0,12,28,0,0,192,448,0,1984,4032,8128,16380,32767,0,65536,0,0,786432,1835008,0,0,12582912,29360128,0,130023424,264241152,532676608,1073479680,2147418112,4294967295,8589934591]
theorem Q6.tab13:rtab .any (qbH Try.f11 13)=Q6.T13:=by kernel_rfl
theorem Q6.bits13:Kv Q6.T13.2 Q6.B13=true:=by kernel_rfl
def Q6.T14:Bool × List (List Nat × List Nat):=(true,[([],[]),([0],[0]),([1],[1]),([2,1],[1,2]),([1],[1]),([1],[1]),([4,5,1],[1,4,5]),([6,1],[1,6]),([7,1],[1,7]),([8,1],[1,8]),([3,9,1],[1,3,9]),([1,10],[1,10]),([11,1],[11]),([12],[12]),([13,12],[12,13]),([12],[12]),([12],[12]),([15,16,12],[12,15,16]),([17,12],[12,17]),([18,12],[12,18]),([19,12],[12,19]),([14,20,12],[12,14,20]),([12,21],[12,21]),([22,12,0,1,2,3,4,5,6,7,8,9,10,11,12,13,14,15,16,17,18,19,20,21,22],[0,22])])
def Q6.B14:List Nat:=[0,1,3,7,3,3,51,115,243,499,1023,2047,4095,8191,16383,8191,8191,106495,237567,499711,1023999,2097151,4194303,8388607]
theorem Q6.tab14:rtab .any (qbH Try.f11 14)=Q6.T14:=by kernel_rfl
theorem Q6.bits14:Kv Q6.T14.2 Q6.B14=true:=by kernel_rfl
def Q6.T19:Bool × List (List Nat × List Nat):=(true,[([],[]),([],[]),([],[]),([],[]),([2,3],[2,3]),([4],[4]),([5],[5]),([],[]),([6,7],[6,7]),([8],[8]),([],[]),([],[]),([10,11],[10,11]),([12],[12]),([13],[13]),([],[]),([14,15],[14,15]),([16],[16]),([9,17],[9,17]),([0,1,0,1,2,3,4,5,6,7,8,9,10,11,12,13,14,15,16,17,18],[0,1]),([19,18,18,0,1,2,3,4,5,6,7,8,9,10,11,12,13,14,15,16,17,18],[18,19])])
def Q6.B19:List Nat:=[0,0,0,0,12,28,60,0,252,508,0,0,3072,7168,15360,0,64512,130048,262140,524287,1048575]
theorem Q6.tab19:rtab .any (qbH Try.f11 19)=Q6.T19:=by kernel_rfl
theorem Q6.bits19:Kv Q6.T19.2 Q6.B19=true:=by kernel_rfl
def Q6.T26:Bool × List (List Nat × List Nat):=(true,[([],[]),([0],[0]),([1],[1]),([1],[1]),([2,3,1],[1,2,3]),([4,1],[1,4]),([1],[1]),([1],[1]),([6,7,1],[1,6,7]),([8,1],[1,8]),([5,9,1,1],[1,5,9]),([10,1],[1,10]),([1,11],[1,11]),([12,10],[12]),([13],[13]),([13],[13]),([14,15,13],[13,14,15]),([16,13],[13,16]),([17,13],[13,17]),([13],[13]),([13],[13]),([19,20,13],[13,19,20]),([21,13],[13,21]),([22,13],[13,22]),([18,23,13],[13,18,23]),([13,24],[13,24]),([25,13],[25]),([26],[26]),([26],[26]),([27,28,26],[26,27,28]),([29,26],[26,29]),([30,26],[26,30]),([26],[26]),([26],[26]),([32,33,26],[26,32,33]),([34,26],[26,34]),([35,26],[26,35]),([31,36,26],[26,31,36]),([26,37],[26,37])])
def Q6.B26:List Nat:=[0,1,3,3,15,31,3,3,195,451,1023,2047,4095,8191,16383,16383,65535,131071,262143,16383,16383,1589247,3686399,7880703,16777215,33554431,67108863,134217727,134217727,536870911,1073741823,2147483647,134217727,134217727,13019119615,30198988799,64558727167,137438953471,274877906943]
theorem Q6.tab26:rtab .any (qbH Try.f11 26)=Q6.T26:=by kernel_rfl
theorem Q6.bits26:Kv Q6.T26.2 Q6.B26=true:=by kernel_rfl
set_option maxHeartbeats 8000000 in
set_option maxRecDepth 100000 in
theorem Q6.calls (k:Nat) (A0:Option Addr) (c0:Nat) (l0:List (List (S25))) (A1:Option Addr) (c1:Nat) (l1:List (S25)) (A2:Option Addr) (c2:Nat) (l2:List Int) (r:Bool) (w:World) (hr0:Kd.C (Kd.slice 25 k25) w A0 l0.length l0) (hc0:l0.length≤c0) (hr1:Kd.C k25 w A1 l1.length l1) (hc1:l1.length≤c1) (hr2:Kd.C (Kd.int .i64) w A2 l2.length l2) (hc2:l2.length≤c2) (h:Q6.f k l0 l1 l2=some r) :
  Calls Try.prog 11 #[.slice A0 l0.length c0,.slice A1 l1.length c1,.slice A2 l2.length c2] w fun e w'=>e = .returned (.bool r)∧Below w.heap.size w w':=by
 have Xc:=Try.underlying25
 have HR0:=Q0.mk hr0
 have HC0:=Q0.mk hc0
 clear hr0 hc0
 have HR1:=Q0.mk hr1
 have HC1:=Q0.mk hc1
 clear hr1 hc1
 have HR2:=Q0.mk hr2
 have HC2:=Q0.mk hc2
 clear hr2 hc2
 have HB:=Q0.mk (Below.refl w.heap.size w)
 have H:((Qr.f k l0 l1).bind fun Oy=>(if Oy.2=0 then ((Qq.f k l0 l1).bind fun qmz=>(Q6.j0 k l0 l1 l2 Oy.1 Oy.2 (!qmz))) else (if Oy.2=4 then ((Qq.f k l0 l1).bind fun qo0=>(Q6.j0 k l0 l1 l2 Oy.1 Oy.2 (!qo0))) else (Q6.j0 k l0 l1 l2 Oy.1 Oy.2 true))))=some r:=h
 clear h
 replace H:=Option.bind_eq_some_iff.mp H
 obtain ⟨⟨Yj,Jj⟩,A40,H⟩:=H
 replace H:(if Jj=0 then ((Qq.f k l0 l1).bind fun qmz=>(Q6.j0 k l0 l1 l2 Yj Jj (!qmz))) else (if Jj=4 then ((Qq.f k l0 l1).bind fun qo0=>(Q6.j0 k l0 l1 l2 Yj Jj (!qo0))) else (Q6.j0 k l0 l1 l2 Yj Jj true)))=some r:=H
 have A4:=Q0.mk A40
 clear A40
 have HC5:=Q0.mk H
 clear H
 go_enter Try.func11,Try.ntmps11
 go_upto_region 2 with (first|((with_reducible refine QF (f:=22) rfl ?_);refine YE (some 23) rfl rfl Try.func22 (by kernel_rfl) rfl #[.slice A0 l0.length c0,.slice A1 l1.length c1] rfl (by (try simp only [List.map_toArray,List.map_cons,List.map_nil]);first|done|rfl|(simp only [List.length_drop,List.length_take];rfl)) ?_;(with_reducible refine (Qr.calls k _ _ l0 _ _ l1 Yj Jj _ ?side1 ?side2 ?side3 ?side4 A4.out).mono ?_);(case side1=>repeat (first|exact HR0.out|(with_reducible refine Kd.C_alloc ?_ _)|(with_reducible refine Kd.C_drewN ?_ _)|(with_reducible refine Kd.C_drew ?_)));(case side2=>exact HC0.out);(case side3=>repeat (first|exact HR1.out|(with_reducible refine Kd.C_alloc ?_ _)|(with_reducible refine Kd.C_drewN ?_ _)|(with_reducible refine Kd.C_drew ?_)));(case side4=>exact HC1.out);rintro e w6 ⟨qdQ,rfl,ho0,hb⟩;refine ⟨_,rfl,?_⟩;have n0_:=Q0.mk (Kd.V_lower (Kd.V_mono (ok':=fun k_=>True) ho0 (fun k_ hk_=>trivial)) (Qn (by repeat (first|(with_reducible first|exact HB.out|apply Q2|apply Q1|apply Q4)|exact HB.out))));have n1_:=Q0.mk (Qv (by repeat (first|(with_reducible first|exact HB.out|apply Q2|apply Q1|apply Q4)|exact HB.out)) hb);clear HB;have XN:=n0_;have HB:=n1_;clear n0_ n1_;(try clear hb);(try clear hb2);(try clear hk);(try clear hi);(try clear ho0)))
 (try simp only [Qf,Qb,Qe,Qd,Qc])
 go_cut [37] (fun v37 wc => ∃ (kq:Nat) (qjS:Bool),v37 = .bool qjS∧Q0 (Q6.j0 kq l0 l1 l2 Yj Jj qjS=some r)∧Q0 (kq≤k)∧Q0 (Kd.V k25 25 wc w.heap.size (fun _=>True) qdQ Yj)∧Q0 (Below w.heap.size w wc))
 case first =>
  have H:=HC5.out
  clear HC5
  by_cases c7:Jj=0
  ·
   as_aux_lemma =>
   rw [if_pos c7] at H
   have c7b0:(Jj==0)=true:=beq_iff_eq.mpr c7
   have c7b1:(Jj != 0)=false:=bne_eq_false_iff_eq.mpr c7
   clear c7
   (first|rw [c7b0]|(simp only [Qk,Qm];rw [c7b0])|skip)
   replace H:=Option.bind_eq_some_iff.mp H
   obtain ⟨qmz,A80,H⟩:=H
   replace H:(Q6.j0 k l0 l1 l2 Yj Jj (!qmz))=some r:=H
   have A8:=Q0.mk A80
   clear A80
   have H':=Q0.mk H
   clear H
   go_wp2_with (first|(go_at_call 45;(with_reducible refine (Qq.calls k _ _ l0 _ _ l1 qmz _ ?side1 ?side2 ?side3 ?side4 A8.out).mono ?_);(case side1=>repeat (first|exact (Kd.C_below HR0.out HB.out)|(with_reducible refine Kd.C_alloc ?_ _)|(with_reducible refine Kd.C_drewN ?_ _)|(with_reducible refine Kd.C_drew ?_)));(case side2=>exact HC0.out);(case side3=>repeat (first|exact (Kd.C_below HR1.out HB.out)|(with_reducible refine Kd.C_alloc ?_ _)|(with_reducible refine Kd.C_drewN ?_ _)|(with_reducible refine Kd.C_drew ?_)));(case side4=>exact HC1.out);rintro e w9 ⟨rfl,hb⟩;have n0_:=Q0.mk (Kd.V_below (by (with_reducible repeat (first|apply Kd.V_alloc|apply Kd.V_drewN|apply Kd.V_drew));exact XN.out) hb);have n1_:=Q0.mk (Qv (by repeat (first|(with_reducible first|exact HB.out|apply Q2|apply Q1|apply Q4)|exact HB.out)) hb);clear XN HB;have XN:=n0_;have HB:=n1_;clear n0_ n1_;(try clear hb);(try clear hb2);(try clear hk);(try clear hi)))
   go_meet
   case rel=>exact ⟨_,(!qmz),(by first|rfl|(simp;done)|(simp [*];done)),H',⟨by first|omega|exact Nat.le_refl _⟩,⟨by (with_reducible repeat (first|apply Kd.V_alloc|apply Kd.V_drewN|apply Kd.V_drew));exact XN.out⟩,⟨by repeat (first|(with_reducible first|exact HB.out|apply Q2|apply Q1|apply Q4)|exact HB.out)⟩⟩
  as_aux_lemma =>
  rw [if_neg c7] at H
  have c7b0:(Jj==0)=false:=beq_eq_false_iff_ne.mpr c7
  have c7b1:(Jj != 0)=true:=bne_iff_ne.mpr c7
  (first|rw [c7b0]|(simp only [Qk,Qm];rw [c7b0])|skip)
  by_cases c10:Jj=4
  ·
   as_aux_lemma =>
   rw [if_pos c10] at H
   have c10b0:(Jj==4)=true:=beq_iff_eq.mpr c10
   have c10b1:(Jj != 4)=false:=bne_eq_false_iff_eq.mpr c10
   clear c10
   replace H:=Option.bind_eq_some_iff.mp H
   obtain ⟨qo0,qfF,H⟩:=H
   replace H:(Q6.j0 k l0 l1 l2 Yj Jj (!qo0))=some r:=H
   have A11:=Q0.mk qfF
   clear qfF
   have H':=Q0.mk H
   clear H
   go_wp2_with (first|(go_at_call 45;(with_reducible refine (Qq.calls k _ _ l0 _ _ l1 qo0 _ ?side1 ?side2 ?side3 ?side4 A11.out).mono ?_);(case side1=>repeat (first|exact (Kd.C_below HR0.out HB.out)|(with_reducible refine Kd.C_alloc ?_ _)|(with_reducible refine Kd.C_drewN ?_ _)|(with_reducible refine Kd.C_drew ?_)));(case side2=>exact HC0.out);(case side3=>repeat (first|exact (Kd.C_below HR1.out HB.out)|(with_reducible refine Kd.C_alloc ?_ _)|(with_reducible refine Kd.C_drewN ?_ _)|(with_reducible refine Kd.C_drew ?_)));(case side4=>exact HC1.out);rintro e w12 ⟨rfl,hb⟩;have n0_:=Q0.mk (Kd.V_below (by (with_reducible repeat (first|apply Kd.V_alloc|apply Kd.V_drewN|apply Kd.V_drew));exact XN.out) hb);have n1_:=Q0.mk (Qv (by repeat (first|(with_reducible first|exact HB.out|apply Q2|apply Q1|apply Q4)|exact HB.out)) hb);clear XN HB;have XN:=n0_;have HB:=n1_;clear n0_ n1_;(try clear hb);(try clear hb2);(try clear hk);(try clear hi)))
   go_meet
   case rel=>exact ⟨_,(!qo0),(by first|rfl|(simp;done)|(simp [*];done)),H',⟨by first|omega|exact Nat.le_refl _⟩,⟨by (with_reducible repeat (first|apply Kd.V_alloc|apply Kd.V_drewN|apply Kd.V_drew));exact XN.out⟩,⟨by repeat (first|(with_reducible first|exact HB.out|apply Q2|apply Q1|apply Q4)|exact HB.out)⟩⟩
  rw [if_neg c10] at H
  have c10b0:(Jj==4)=false:=beq_eq_false_iff_ne.mpr c10
  have c10b1:(Jj != 4)=true:=bne_iff_ne.mpr c10
  have H':=Q0.mk H
  clear H
  go_wp2
  go_meet
  case rel=>exact ⟨_,(true),(by first|rfl|(simp;done)|(simp [*];done)),H',⟨by first|omega|exact Nat.le_refl _⟩,⟨by (with_reducible repeat (first|apply Kd.V_alloc|apply Kd.V_drewN|apply Kd.V_drew));exact XN.out⟩,⟨by repeat (first|(with_reducible first|exact HB.out|apply Q2|apply Q1|apply Q4)|exact HB.out)⟩⟩
 clear HC5
 try clear c1
 try clear c2
 try clear p2
 try clear c7
 try clear c7b0
 try clear c7b1
 try clear c10
 try clear c10b0
 try clear c10b1
 try clear c11
 obtain ⟨kq,qjS,rfl,HA,HJ4,HO_7,HB⟩:=hcut
 cases kq with
 | zero=>exact absurd HA.out (by simp [Q6.j0])
 | succ kj4 =>
  have H:=HA.out
  clear HA
  simp only [Q6.j0] at H
  by_cases c13:qjS=true
  ·
   as_aux_lemma =>
   subst c13
   have H1:(if Jj=91 then (if (Yj.length:Int)=0 then ((ZE.f).bind fun qkD=>(some qkD)) else (some false)) else (some false))=some r:=by rw [if_pos rfl] at H;exact H
   clear H
   have H:=H1
   clear H1
   by_cases c14:Jj=91
   ·
    as_aux_lemma =>
    rw [if_pos c14] at H;have c14b0:(Jj==91)=true:=beq_iff_eq.mpr c14;have c14b1:(Jj != 91)=false:=bne_eq_false_iff_eq.mpr c14;clear c14
    by_cases c15:(Yj.length:Int)=0
    ·
     as_aux_lemma =>
     rw [if_pos c15] at H;have c15b0:((Yj.length:Int)==0)=true:=beq_iff_eq.mpr c15;have c15b1:((Yj.length:Int) != 0)=false:=bne_eq_false_iff_eq.mpr c15;clear c15;replace H:=Option.bind_eq_some_iff.mp H;obtain ⟨qkD,qkO,H⟩:=H;replace H:(some qkD)=some r:=H;have A16:=Q0.mk qkO;clear qkO;obtain rfl:=Option.some.inj H;obtain ⟨qFr,qFK,qBG⟩:=Kd.V_slice HO_7.out;subst qBG
     go_wp2_with (first|(go_at_call 21;(with_reducible refine (ZE.calls  qkD _ A16.out).mono ?_);rintro e w18 ⟨rfl,hb⟩;have n0_:=Q0.mk (Kd.V_below (by (with_reducible repeat (first|apply Kd.V_alloc|apply Kd.V_drewN|apply Kd.V_drew));exact HO_7.out) hb);have n1_:=Q0.mk (Qv (by repeat (first|(with_reducible first|exact HB.out|apply Q2|apply Q1|apply Q4)|exact HB.out)) hb);clear HO_7 HB;have HO_7:=n0_;have HB:=n1_;clear n0_ n1_;(try clear hb);(try clear hb2);(try clear hk);(try clear hi)))
     go_ret
     exact ⟨by first|rfl|(simp [QC,QD]<;>rfl)|(simp [*,QC,QD]<;>rfl),by repeat (first|(with_reducible first|exact HB.out|apply Q2|apply Q1|apply Q4)|exact HB.out)⟩
    rw [if_neg c15] at H;have c15b0:((Yj.length:Int)==0)=false:=beq_eq_false_iff_ne.mpr c15;have c15b1:((Yj.length:Int) != 0)=true:=bne_iff_ne.mpr c15
    have c15b2:¬ (Yj=[]):=fun h_=>c15 (by rw [h_];rfl)
    obtain rfl:=Option.some.inj H;obtain ⟨qFs,qFL,qBH⟩:=Kd.V_slice HO_7.out;subst qBH
    go_wp2
    go_ret
    exact ⟨by first|rfl|(simp [QC,QD]<;>rfl)|(simp [*,QC,QD]<;>rfl),by repeat (first|(with_reducible first|exact HB.out|apply Q2|apply Q1|apply Q4)|exact HB.out)⟩
   rw [if_neg c14] at H
   have c14b0:(Jj==91)=false:=beq_eq_false_iff_ne.mpr c14
   have c14b1:(Jj != 91)=true:=bne_iff_ne.mpr c14
   obtain rfl:=Option.some.inj H
   go_wp2
   go_ret
   exact ⟨by first|rfl|(simp [QC,QD]<;>rfl)|(simp [*,QC,QD]<;>rfl),by repeat (first|(with_reducible first|exact HB.out|apply Q2|apply Q1|apply Q4)|exact HB.out)⟩
  as_aux_lemma =>
  replace c13:=Bool.eq_false_iff.mpr c13
  subst c13
  have H1:((Yr.f kj4 (l0.length:Int) l2).bind fun Z2=>(Q6.l0 kj4 l0 l1 l2 Yj Jj Z2 true 0))=some r:=by rw [if_neg (show ¬ (false=true) by decide)] at H;exact H
  clear H
  have H:=H1
  clear H1
  replace H:=Option.bind_eq_some_iff.mp H
  obtain ⟨Z2,qry,H⟩:=H
  replace H:(Q6.l0 kj4 l0 l1 l2 Yj Jj Z2 true 0)=some r:=H
  have A20:=Q0.mk qry
  clear qry
  have H':=Q0.mk H
  clear H
  go_wp2_with (first|((with_reducible refine QF (f:=46) rfl ?_);refine YE (some 51) rfl rfl Try.func46 (by kernel_rfl) rfl #[.int .i64 (l0.length:Int),.slice A2 l2.length c2] rfl (by (try simp only [List.map_toArray,List.map_cons,List.map_nil]);first|done|rfl|(simp only [List.length_drop,List.length_take];rfl)) ?_;(with_reducible refine (Yr.calls kj4 (l0.length:Int) _ _ l2 Z2 _ ?side1 ?side2 A20.out).mono ?_);(case side1=>repeat (first|exact (Kd.C_below HR2.out HB.out)|(with_reducible refine Kd.C_alloc ?_ _)|(with_reducible refine Kd.C_drewN ?_ _)|(with_reducible refine Kd.C_drew ?_)));(case side2=>exact HC2.out);rintro e w21 ⟨U6,rfl,ho0,hb⟩;refine ⟨_,rfl,?_⟩;have n0_:=Q0.mk (Kd.V_elder' (by (with_reducible repeat (first|apply Kd.V_alloc|apply Kd.V_drewN|apply Kd.V_drew));exact HO_7.out) (Kd.R_base ho0) hb);have n1_:=Q0.mk (Kd.R_lower ho0 (Qn (by repeat (first|(with_reducible first|exact HB.out|apply Q2|apply Q1|apply Q4)|exact HB.out))));have n2_:=Q0.mk (Qv (by repeat (first|(with_reducible first|exact HB.out|apply Q2|apply Q1|apply Q4)|exact HB.out)) hb);clear HO_7 HB;have HO_7:=n0_;have qsf:=n1_;have HB:=n2_;clear n0_ n1_ n2_;(try clear hb);(try clear hb2);(try clear hk);(try clear hi);(try clear ho0)))
  go_loopg [10,11] kj4 (fun kq v10 v11 w' => ∃ (Yt:Bool) (Z3:Int),v10 = .bool Yt∧v11 = .int .i64 Z3∧Q0 (Q6.l0 kq l0 l1 l2 Yj Jj Z2 Yt Z3=some r)∧Q0 (kq≤kj4)∧Q0 (Kd.V k25 25 w' w.heap.size (fun k_=>some k_≠(U6:Value).ownBlock) qdQ Yj)∧Q0 (Kd.R (Kd.int .i64) 3 w' w.heap.size (fun _=>True) U6 Z2)∧Q0 (Below w.heap.size w w'))
  case atStart=>exact ⟨(true),(0),(by first|rfl|(simp;done)|(simp [*];done)),(by first|rfl|(simp;done)|(simp [*];done)),H',⟨Nat.le_refl _⟩,⟨by (with_reducible repeat (first|apply Kd.V_alloc|apply Kd.V_drewN|apply Kd.V_drew));exact Kd.V_mono HO_7.out (fun _ hk=>hk.2)⟩,⟨by (with_reducible repeat (first|apply Kd.R_alloc|apply Kd.R_drewN|apply Kd.R_drew));exact qsf.out⟩,⟨by repeat (first|(with_reducible first|exact HB.out|apply Q2|apply Q1|apply Q4)|exact HB.out)⟩⟩
  clear H'
  try clear c1
  try clear c2
  try clear p2
  try clear c4
  try clear c7
  try clear c7b0
  try clear c7b1
  try clear c10
  try clear c10b0
  try clear c10b1
  try clear c11
  try clear c13
  try clear c14
  try clear c14b0
  try clear c14b1
  try clear c15
  try clear c15b0
  try clear c15b1
  try clear c15b2
  try clear p2
  obtain ⟨Yt,Z3,rfl,rfl,HA,HK2,HO_7,HO_9,HB⟩:=hrel
  cases gk with
  | zero=>exact absurd HA.out (by simp [Q6.l0])
  | succ k2 =>
   have H:=HA.out
   clear HA
   simp only [Q6.l0] at H
   by_cases c22:Z3<(l1.length:Int)
   ·
    as_aux_lemma =>
    rw [if_pos c22] at H;have c22b0:decide (Z3<(l1.length:Int))=true:=decide_eq_true c22;clear c22;replace H:=Option.bind_eq_some_iff.mp H;obtain ⟨⟨qkE,qmA⟩,qrA,H⟩:=H;replace H:(Q6.l1 k2 l0 l1 l2 Yj Jj Z2 Yt Z3 0 qkE qmA)=some r:=H;have A23:=Q0.mk qrA;clear qrA;have H':=Q0.mk H;clear H
    go_wp2_with (first|((with_reducible refine QF (f:=43) rfl ?_);refine YE (some 58) rfl rfl Try.func43 (by kernel_rfl) rfl #[.int .i64 0,.int .i64 0] rfl (by (try simp only [List.map_toArray,List.map_cons,List.map_nil]);first|done|rfl|(simp only [List.length_drop,List.length_take];rfl)) ?_;(with_reducible refine (QB.calls 0 0 qkE qmA _ A23.out).mono ?_);rintro e w24 ⟨rfl,hb⟩;refine ⟨_,rfl,?_⟩;have n0_:=Q0.mk (Kd.V_below (by (with_reducible repeat (first|apply Kd.V_alloc|apply Kd.V_drewN|apply Kd.V_drew));exact HO_7.out) hb);have n1_:=Q0.mk (Kd.R_below (by (with_reducible repeat (first|apply Kd.R_alloc|apply Kd.R_drewN|apply Kd.R_drew));exact HO_9.out) hb);have n2_:=Q0.mk (Qv (by repeat (first|(with_reducible first|exact HB.out|apply Q2|apply Q1|apply Q4)|exact HB.out)) hb);clear HO_7 HO_9 HB;have HO_7:=n0_;have HO_9:=n1_;have HB:=n2_;clear n0_ n1_ n2_;(try clear hb);(try clear hb2);(try clear hk);(try clear hi))|((with_reducible refine Y0 (N:=12) rfl ?_);(try (refine G4 (by rfl) ?_;dsimp only));refine Yv ?hg (N:=12) ?hd (cs:=#[.int .i64 0,.int .i64 0]) (t:=25) ?hr ?_;(case hd=>rfl);(case hg=>rfl);(case hr=>first|(go_simp;done)|(go_simp;rfl));intro Gj hg w25 hbox hb;have n0_:=Q0.mk (Kd.V_below (Kd.V_elderB (by (with_reducible repeat (first|apply Kd.V_alloc|apply Kd.V_drewN|apply Kd.V_drew));exact HO_7.out) Gj (Nat.le_of_eq hg.symm)) hb);have n1_:=Q0.mk (Kd.R_below (by (with_reducible repeat (first|apply Kd.R_alloc|apply Kd.R_drewN|apply Kd.R_drew));exact HO_9.out) hb);have n2_:=Q0.mk (Qv (by repeat (first|(with_reducible first|exact HB.out|apply Q2|apply Q1|apply Q4)|exact HB.out)) hb);have n3_:=Q0.mk (hbox);have n4_:=Q0.mk ((by rw [hg];exact (Qn (by repeat (first|(with_reducible first|exact HB.out|apply Q2|apply Q1|apply Q4)|exact HB.out))):w.heap.size≤Gj));have n5_:=n4_;clear HO_7 HO_9 HB;have HO_7:=n0_;have HO_9:=n1_;have HB:=n2_;have Ji:=n3_;have qDl:=n4_;have qdU:=n5_;clear n0_ n1_ n2_ n3_ n4_ n5_ hb hbox hg;have qiT:w25.cell? ⟨Gj,0,none⟩=some (.int .i64 0):=(Q9 Ji.out 0).trans rfl;have qiU:w25.cell? ⟨Gj,1,none⟩=some (.int .i64 0):=(Q9 Ji.out 1).trans rfl;have qiY:=Qa Ji.out 0;have qiZ:=Qa Ji.out 1))
    go_loopg [13] k2 (fun kq v13 w' => ∃ (ZQ:Int) (Ju:Int) (JP:Int),v13 = .int .i64 ZQ∧Q0 (Q6.l1 kq l0 l1 l2 Yj Jj Z2 Yt Z3 ZQ Ju JP=some r)∧Q0 (kq≤k2)∧Q0 (Kd.V k25 25 w' w.heap.size (fun k_=>some k_≠(U6:Value).ownBlock∧k_≠Gj) qdQ Yj)∧Q0 (Kd.R (Kd.int .i64) 3 w' w.heap.size (fun _=>True) U6 Z2)∧Q0 (w'.heap[Gj]? = some (.cells #[.int .i64 Ju,.int .i64 JP] 25 (0,0)))∧Q0 (Below w.heap.size w w'))
    case atStart=>exact ⟨(0),(qkE),(qmA),(by first|rfl|(simp;done)|(simp [*];done)),H',⟨Nat.le_refl _⟩,⟨by (with_reducible repeat (first|apply Kd.V_alloc|apply Kd.V_drewN|apply Kd.V_drew));exact Kd.V_mono (Kd.V_far (p:=⟨Gj,1,none⟩) (Kd.V_far (p:=⟨Gj,0,none⟩) (Kd.V_mono HO_7.out (fun k_ hk=>(⟨hk,hk.2⟩:_∧k_≠Gj))) (fun _ hk=>hk.2) (.int .i64 qkE)) (fun _ hk=>hk.2) (.int .i64 qmA)) (fun _ hk=>⟨hk.1.1,hk.1.2⟩)⟩,⟨by (with_reducible repeat (first|apply Kd.R_alloc|apply Kd.R_drewN|apply Kd.R_drew));exact Kd.R_mono (Kd.R_far (p:=⟨Gj,1,none⟩) (Kd.R_far (p:=⟨Gj,0,none⟩) (Kd.R_types HO_9.out Ji.out (by decide)) (fun _ hk=>hk.2) (.int .i64 qkE)) (fun _ hk=>hk.2) (.int .i64 qmA)) (fun _ hk=>trivial)⟩,⟨by (with_reducible repeat (first|refine Q5 ?_ _|refine Q7 ?_|refine Q3 ?_ _));refine QG (cs:=#[.int .i64 qkE,.int .i64 0]) ?_ 1 _ rfl;(with_reducible repeat (first|refine Q5 ?_ _|refine Q7 ?_|refine Q3 ?_ _));refine QG (cs:=#[.int .i64 0,.int .i64 0]) ?_ 0 _ rfl;(with_reducible repeat (first|refine Q5 ?_ _|refine Q7 ?_|refine Q3 ?_ _));exact Ji.out⟩,⟨by repeat (first|(with_reducible first|exact HB.out|apply Q2|apply Q1|apply Q4|refine Q8 ?_ qdU.out)|exact HB.out)⟩⟩
    clear H';(try clear c1);(try clear c2);(try clear p2);(try clear c4);(try clear c7);(try clear c7b0);(try clear c7b1);(try clear c10);(try clear c10b0);(try clear c10b1);(try clear c11);(try clear c13);(try clear c14);(try clear c14b0);(try clear c14b1);(try clear c15);(try clear c15b0);(try clear c15b1);(try clear c15b2);(try clear c22);(try clear c22b0);(try clear qiT);(try clear qiU);(try clear qiY);(try clear qiZ);(try clear p2);obtain ⟨ZQ,Ju,JP,rfl,HA,HK3,HO_7,HO_9,Ji,HB⟩:=hrel
    cases gk with
    | zero=>exact absurd HA.out (by simp [Q6.l1])
    | succ k3 =>
     have H:=HA.out;clear HA;simp only [Q6.l1] at H
     by_cases c27:ZQ<(l0.length:Int)
     ·
      as_aux_lemma =>
      rw [if_pos c27] at H;have c27b0:decide (ZQ<(l0.length:Int))=true:=decide_eq_true c27;clear c27
      by_cases c28:0≤ZQ
      ·
       as_aux_lemma =>
       rw [if_pos c28] at H;have c28b0:decide (0≤ZQ)=true:=decide_eq_true c28;clear c28
       by_cases c29:ZQ<(Z2.length:Int)
       ·
        as_aux_lemma =>
        rw [if_pos c29] at H;have c29b0:decide (ZQ<(Z2.length:Int))=true:=decide_eq_true c29;clear c29
        by_cases c30:0≤Z3
        ·
         as_aux_lemma =>
         rw [if_pos c30] at H;have c30b0:decide (0≤Z3)=true:=decide_eq_true c30;clear c30
         by_cases c31:Z3<((Yx l0 ZQ).length:Int)
         ·
          as_aux_lemma =>
          rw [if_pos c31] at H;have c31b0:decide (Z3<((Yx l0 ZQ).length:Int))=true:=decide_eq_true c31;clear c31;replace H:=Option.bind_eq_some_iff.mp H;obtain ⟨⟨qkF,qmB⟩,qkS,H⟩:=H;replace H:(Q6.l1 k3 l0 l1 l2 Yj Jj Z2 Yt Z3 (wrap64 (ZQ+1)) qkF qmB)=some r:=H;have A32:=Q0.mk qkS;clear qkS;have H':=Q0.mk H;clear H
          try go_wp2
          have n0_:=Q0.mk (Kd.V_drew HO_7.out);have n1_:=Q0.mk (Kd.R_drew HO_9.out);have n2_:=Q0.mk (Q7 Ji.out);have n3_:=Q0.mk (Q4 HB.out);clear HO_7 HO_9 Ji HB;have HO_7:=n0_;have HO_9:=n1_;have Ji:=n2_;have HB:=n3_;clear n0_ n1_ n2_ n3_;obtain ⟨qFt,qFM,qsW⟩:=Kd.R_slice HO_9.out
          (first|subst qsW|(injection qsW with f1_ f2_ f3_;have f4_:=f1_.symm;have f5_:=f3_.symm;clear f1_ f2_ f3_;subst f4_;subst f5_))
          have qq8:0≤(ZQ:Int):=of_decide_eq_true (by first|(with_reducible assumption)|assumption);have qrm:ZQ<(Z2.length:Int):=of_decide_eq_true (by first|(with_reducible assumption)|assumption);obtain ⟨qlj,qBu,qjw⟩:=Kd.at_int (Kd.R_reads' HO_9.out).2.2 ZQ qq8 qrm;cases qBu;replace qq8:=eq_true qq8;replace qrm:=eq_true qrm;have qq9:0≤(ZQ:Int):=of_decide_eq_true (by first|(with_reducible assumption)|assumption);have qrn:ZQ<(l0.length:Int):=of_decide_eq_true (by first|(with_reducible assumption)|assumption);obtain ⟨qlk,qA0,qls,qBv,X6,qjs,qjf⟩:=qcX HR0.out ZQ qq9 qrn;have qcq:=X6;cases qBv;replace X6:=(HB.out.cell (World.block_lt_of_cell? w _ X6)).trans X6;have qiI:=Q0.mk qjf;have qvh:=Q0.mk qjs;clear qjf qjs;replace qq9:=eq_true qq9;replace qrn:=eq_true qrn;have qra:0≤(Z3:Int):=of_decide_eq_true (by first|(with_reducible assumption)|assumption);have qro:Z3<((Yx l0 ZQ).length:Int):=of_decide_eq_true (by first|(with_reducible assumption)|assumption);obtain ⟨qby,qBw,qaG,qaH⟩:=ZD qiI.out Z3 qra qro;have qcs:=qaH;have qcr:=qaG;cases qBw;replace qaG:=(HB.out.cell (World.block_lt_of_cell? w _ qaG)).trans qaG;replace qaH:=(HB.out.cell (World.block_lt_of_cell? w _ qaH)).trans qaH;replace qra:=eq_true qra;replace qro:=eq_true qro;have qrb:0≤(ZQ:Int):=of_decide_eq_true (by first|(with_reducible assumption)|assumption);have qrp:ZQ<(Z2.length:Int):=of_decide_eq_true (by first|(with_reducible assumption)|assumption);obtain ⟨qsC,qBx,qjx⟩:=Kd.at_int (Kd.R_reads' HO_9.out).2.2 ZQ qrb qrp;obtain rfl:qlj=qsC:=(by injection qBx);replace qrb:=eq_true qrb;replace qrp:=eq_true qrp;have qrc:0≤(ZQ:Int):=of_decide_eq_true (by first|(with_reducible assumption)|assumption);have qrq:ZQ<(l0.length:Int):=of_decide_eq_true (by first|(with_reducible assumption)|assumption);obtain ⟨qsD,qA1,qBg,qBy,X7,qjt,qjg⟩:=qcX HR0.out ZQ qrc qrq;have qct:=X7;obtain rfl:qlk=qsD:=(by injection qBy);replace X7:=(HB.out.cell (World.block_lt_of_cell? w _ X7)).trans X7;have qiJ:=Q0.mk qjg;have qvi:=Q0.mk qjt;clear qjg qjt;replace qrc:=eq_true qrc;replace qrq:=eq_true qrq;have ea_:=Option.some.inj (X6.symm.trans X7)
          injection ea_ with ea_ en_ ec_
          subst ea_;subst ec_;clear en_;have qrd:0≤(Z3:Int):=of_decide_eq_true (by first|(with_reducible assumption)|assumption);have qrr:Z3<((Yx l0 ZQ).length:Int):=of_decide_eq_true (by first|(with_reducible assumption)|assumption);obtain ⟨qDv,qBz,qaI,qaJ⟩:=ZD qiJ.out Z3 qrd qrr;have qcv:=qaJ;have qcu:=qaI;cases qBz;replace qaI:=(HB.out.cell (World.block_lt_of_cell? w _ qaI)).trans qaI;replace qaJ:=(HB.out.cell (World.block_lt_of_cell? w _ qaJ)).trans qaJ;replace qrd:=eq_true qrd;replace qrr:=eq_true qrr;refine GU (n:=34) (S:=fun w'=>w'.cell? ⟨Gj,0,none⟩=some (.int .i64 Ju)∧w'.cell? ⟨Gj,1,none⟩=some (.int .i64 JP)∧w'.cell? (qlj.add (ZQ).toNat)=some (.int .i64 (rd Z2 ZQ))∧w'.cell? (qlk.add (ZQ).toNat)=some (.slice (some qby) (Yx l0 ZQ).length qls)∧w'.cell? (qby.add ((Z3).toNat*2))=some (.int .i64 ((Qo (Yx l0 ZQ) Z3).f0))∧w'.cell? ⟨(qby.add ((Z3).toNat*2)).block,(qby.add ((Z3).toNat*2)).off+1,none⟩=some (.int .i64 ((Qo (Yx l0 ZQ) Z3).f1))∧w'.cell? (qlj.add (ZQ).toNat)=some (.int .i64 (rd Z2 ZQ))∧w'.cell? (qlk.add (ZQ).toNat)=some (.slice (some qby) (Yx l0 ZQ).length qls)∧w'.cell? (qby.add ((Z3).toNat*2))=some (.int .i64 ((Qo (Yx l0 ZQ) Z3).f0))∧w'.cell? ⟨(qby.add ((Z3).toNat*2)).block,(qby.add ((Z3).toNat*2)).off+1,none⟩=some (.int .i64 ((Qo (Yx l0 ZQ) Z3).f1))) (ds:=[33]) (Qg 34 0) (by kernel_rfl) rfl rfl ⟨(Q9 Ji.out 0).trans rfl,(Q9 Ji.out 1).trans rfl,qjw,((HB.out.cell (World.block_lt_of_cell? w _ qcq)).trans qcq),((HB.out.cell (World.block_lt_of_cell? w _ qcr)).trans qcr),((HB.out.cell (World.block_lt_of_cell? w _ qcs)).trans qcs),qjx,((HB.out.cell (World.block_lt_of_cell? w _ qct)).trans qct),((HB.out.cell (World.block_lt_of_cell? w _ qcu)).trans qcu),((HB.out.cell (World.block_lt_of_cell? w _ qcv)).trans qcv)⟩ (fun hHeld => ?_);refine Jn Q6.tab13 Q6.bits13 (fun HT_ HW_ => ?_)
          generalize wr.drew=w33 at HO_7 HO_9 Ji HB qiI qiJ qjw X6 qaG qaH qjx X7 qaI qaJ hHeld ⊢
          refine Qh 0 (some 65) (Qg 34 1) rfl rfl HT_.out (by kernel_rfl) (fun _ _ _ h=>h) ⟨.inl ⟨by rfl,fun w'=>by go_simp;with_reducible rfl⟩,by simp only [Qf,Qb,Qe,Qd,Qc,Qk,Qm];rfl,?_⟩;refine Qh 2 (some 67) (Qg 34 5) rfl rfl HT_.out (by kernel_rfl) (fun _ _ _ h=>h) ⟨.inl ⟨by rfl,fun w'=>by go_simp;with_reducible rfl⟩,by simp only [Qf,Qb,Qe,Qd,Qc,Qk,Qm];rfl,?_⟩;refine Qh 3 (some 68) (Qg 34 13) rfl rfl HT_.out (by kernel_rfl) (fun _ _ _ h=>h) ⟨.inl ⟨by rfl,fun w'=>by go_simp;with_reducible rfl⟩,by simp only [Qf,Qb,Qe,Qd,Qc,Qk,Qm];rfl,?_⟩;refine Qh 4 (some 69) (Qg 34 29) rfl rfl HT_.out (by kernel_rfl) (fun _ _ _ h=>h) ⟨.inl ⟨by rfl,fun w'=>by go_simp;with_reducible rfl⟩,by simp only [Qf,Qb,Qe,Qd,Qc,Qk,Qm];rfl,?_⟩;refine Qh 6 (some 71) (Qg 34 93) rfl rfl HT_.out (by kernel_rfl) (fun _ _ _ h=>h) ⟨.inl ⟨by rfl,fun w'=>by go_simp;with_reducible rfl⟩,by simp only [Qf,Qb,Qe,Qd,Qc,Qk,Qm];rfl,?_⟩;refine Qh 7 (some 72) (Qg 34 221) rfl rfl HT_.out (by kernel_rfl) (fun _ _ _ h=>h) ⟨.inl ⟨by rfl,fun w'=>by go_simp;with_reducible rfl⟩,by simp only [Qf,Qb,Qe,Qd,Qc,Qk,Qm];rfl,?_⟩;refine Qh 8 (some 73) (Qg 34 477) rfl rfl HT_.out (by kernel_rfl) (fun _ _ _ h=>h) ⟨.inl ⟨by rfl,fun w'=>by go_simp;with_reducible rfl⟩,by simp only [Qf,Qb,Qe,Qd,Qc,Qk,Qm];rfl,?_⟩;refine Qh 10 (some 75) (Qg 34 1501) rfl rfl HT_.out (by kernel_rfl) (fun _ _ _ h=>h) ⟨.inl ⟨by rfl,fun w'=>by go_simp;with_reducible rfl⟩,by simp only [Qf,Qb,Qe,Qd,Qc,Qk,Qm];rfl,?_⟩;refine Qh 16 (some 81) (Qg 34 67037) rfl rfl HT_.out (by kernel_rfl) (fun _ _ _ h=>h) ⟨.inl ⟨by rfl,fun w'=>by go_simp;with_reducible rfl⟩,by simp only [Qf,Qb,Qe,Qd,Qc,Qk,Qm];rfl,?_⟩;refine Qh 18 (some 83) (Qg 34 329181) rfl rfl HT_.out (by kernel_rfl) (fun _ _ _ h=>h) ⟨.inl ⟨by rfl,fun w'=>by go_simp;with_reducible rfl⟩,by simp only [Qf,Qb,Qe,Qd,Qc,Qk,Qm];rfl,?_⟩;refine Qh 19 (some 84) (Qg 34 853469) rfl rfl HT_.out (by kernel_rfl) (fun _ _ _ h=>h) ⟨.inl ⟨by rfl,fun w'=>by go_simp;with_reducible rfl⟩,by simp only [Qf,Qb,Qe,Qd,Qc,Qk,Qm];rfl,?_⟩;refine Qh 20 (some 85) (Qg 34 1902045) rfl rfl HT_.out (by kernel_rfl) (fun _ _ _ h=>h) ⟨.inl ⟨by rfl,fun w'=>by go_simp;with_reducible rfl⟩,by simp only [Qf,Qb,Qe,Qd,Qc,Qk,Qm];rfl,?_⟩;refine Qh 22 (some 87) (Qg 34 6096349) rfl rfl HT_.out (by kernel_rfl) (fun _ _ _ h=>h) ⟨.inl ⟨by rfl,fun w'=>by go_simp;with_reducible rfl⟩,by simp only [Qf,Qb,Qe,Qd,Qc,Qk,Qm];rfl,?_⟩;refine Qh 23 (some 88) (Qg 34 14484957) rfl rfl HT_.out (by kernel_rfl) (fun _ _ _ h=>h) ⟨.inl ⟨by rfl,fun w'=>by go_simp;with_reducible rfl⟩,by simp only [Qf,Qb,Qe,Qd,Qc,Qk,Qm];rfl,?_⟩;refine Qh 24 (some 89) (Qg 34 31262173) rfl rfl HT_.out (by kernel_rfl) (fun _ _ _ h=>h) ⟨.inl ⟨by rfl,fun w'=>by go_simp;with_reducible rfl⟩,by simp only [Qf,Qb,Qe,Qd,Qc,Qk,Qm];rfl,?_⟩;refine Qh 26 (some 91) (Qg 34 98371037) rfl rfl HT_.out (by kernel_rfl) (fun _ _ _ h=>h) ⟨.inl ⟨by rfl,fun w'=>by go_simp;with_reducible rfl⟩,by simp only [Qf,Qb,Qe,Qd,Qc,Qk,Qm];rfl,?_⟩;refine Yn 1 (some 66) (Qg 34 98371039) rfl rfl (Yo HT_.out HW_.out (by kernel_rfl)) (fun _ _ _ h=>h) hHeld ⟨.inl ⟨by rfl,by rintro w' ⟨s0,s1,s2,s3,s4,s5,s6,s7,s8,s9⟩;go_simp;with_reducible rfl⟩,by simp only [Qf,Qb,Qe,Qd,Qc,Qk,Qm];rfl,?_⟩;refine Yn 5 (some 70) (Qg 34 98371071) rfl rfl (Yo HT_.out HW_.out (by kernel_rfl)) (fun _ _ _ h=>h) hHeld ⟨.inl ⟨by rfl,by rintro w' ⟨s0,s1,s2,s3,s4,s5,s6,s7,s8,s9⟩;go_simp;with_reducible rfl⟩,by simp only [Qf,Qb,Qe,Qd,Qc,Qk,Qm];rfl,?_⟩;refine Yn 9 (some 74) (Qg 34 98371583) rfl rfl (Yo HT_.out HW_.out (by kernel_rfl)) (fun _ _ _ h=>h) hHeld ⟨.inl ⟨by rfl,by rintro w' ⟨s0,s1,s2,s3,s4,s5,s6,s7,s8,s9⟩;go_simp;with_reducible rfl⟩,by simp only [Qf,Qb,Qe,Qd,Qc,Qk,Qm];rfl,?_⟩;refine Qh 11 (some 76) (Qg 34 98373631) rfl rfl HT_.out (by kernel_rfl) (fun _ _ _ h=>h) ⟨.inl ⟨by rfl,fun w'=>by go_simp;with_reducible rfl⟩,by simp only [Qf,Qb,Qe,Qd,Qc,Qk,Qm];rfl,?_⟩;refine Qh 12 (some 77) (Qg 34 98377727) rfl rfl HT_.out (by kernel_rfl) (fun _ _ _ h=>h) ⟨.inl ⟨by rfl,fun w'=>by go_simp;with_reducible rfl⟩,by simp only [Qf,Qb,Qe,Qd,Qc,Qk,Qm];rfl,?_⟩;refine Yn 13 (some 78) (Qg 34 98385919) rfl rfl (Yo HT_.out HW_.out (by kernel_rfl)) (fun _ _ _ h=>h) hHeld ⟨.inl ⟨by rfl,by rintro w' ⟨s0,s1,s2,s3,s4,s5,s6,s7,s8,s9⟩;go_simp;with_reducible rfl⟩,by simp only [Qf,Qb,Qe,Qd,Qc,Qk,Qm];rfl,?_⟩;refine Qh 14 (some 79) (Qg 34 98402303) rfl rfl HT_.out (by kernel_rfl) (fun _ _ _ h=>h) ⟨.inl ⟨by rfl,fun w'=>by go_simp;with_reducible rfl⟩,by simp only [Qf,Qb,Qe,Qd,Qc,Qk,Qm];rfl,?_⟩;refine Qh 15 (some 80) (Qg 34 98435071) rfl rfl HT_.out (by kernel_rfl) (fun _ _ _ h=>h) ⟨.inl ⟨by rfl,fun w'=>by go_simp;with_reducible rfl⟩,by simp only [Qf,Qb,Qe,Qd,Qc,Qk,Qm];rfl,?_⟩;refine Yn 17 (some 82) (Qg 34 98566143) rfl rfl (Yo HT_.out HW_.out (by kernel_rfl)) (fun _ _ _ h=>h) hHeld ⟨.inl ⟨by rfl,by rintro w' ⟨s0,s1,s2,s3,s4,s5,s6,s7,s8,s9⟩;go_simp;with_reducible rfl⟩,by simp only [Qf,Qb,Qe,Qd,Qc,Qk,Qm];rfl,?_⟩;refine Yn 21 (some 86) (Qg 34 100663295) rfl rfl (Yo HT_.out HW_.out (by kernel_rfl)) (fun _ _ _ h=>h) hHeld ⟨.inl ⟨by rfl,by rintro w' ⟨s0,s1,s2,s3,s4,s5,s6,s7,s8,s9⟩;go_simp;with_reducible rfl⟩,by simp only [Qf,Qb,Qe,Qd,Qc,Qk,Qm];rfl,?_⟩;refine Yn 25 (some 90) (Qg 34 134217727) rfl rfl (Yo HT_.out HW_.out (by kernel_rfl)) (fun _ _ _ h=>h) hHeld ⟨.inl ⟨by rfl,by rintro w' ⟨s0,s1,s2,s3,s4,s5,s6,s7,s8,s9⟩;go_simp;with_reducible rfl⟩,by simp only [Qf,Qb,Qe,Qd,Qc,Qk,Qm];rfl,?_⟩;refine Qh 27 (some 92) (Qg 34 268435455) rfl rfl HT_.out (by kernel_rfl) (fun _ _ _ h=>h) ⟨.inl ⟨by rfl,fun w'=>by go_simp;with_reducible rfl⟩,by simp only [Qf,Qb,Qe,Qd,Qc,Qk,Qm];rfl,?_⟩;refine Qh 28 (some 93) (Qg 34 536870911) rfl rfl HT_.out (by kernel_rfl) (fun _ _ _ h=>h) ⟨.inl ⟨by rfl,fun w'=>by go_simp;with_reducible rfl⟩,by simp only [Qf,Qb,Qe,Qd,Qc,Qk,Qm];rfl,?_⟩;refine Yn 29 (some 94) (Qg 34 1073741823) rfl rfl (Yo HT_.out HW_.out (by kernel_rfl)) (fun _ _ _ h=>h) hHeld ⟨.inl ⟨by rfl,by rintro w' ⟨s0,s1,s2,s3,s4,s5,s6,s7,s8,s9⟩;go_simp;with_reducible rfl⟩,by simp only [Qf,Qb,Qe,Qd,Qc,Qk,Qm];rfl,?_⟩;refine Qh 30 (some 95) (Qg 34 2147483647) rfl rfl HT_.out (by kernel_rfl) (fun _ _ _ h=>h) ⟨.inl ⟨by rfl,fun w'=>by go_simp;with_reducible rfl⟩,by simp only [Qf,Qb,Qe,Qd,Qc,Qk,Qm];rfl,?_⟩;refine Qh 31 (some 96) (Qg 34 4294967295) rfl rfl HT_.out (by kernel_rfl) (fun _ _ _ h=>h) ⟨.inl ⟨by rfl,fun w'=>by go_simp;with_reducible rfl⟩,by simp only [Qf,Qb,Qe,Qd,Qc,Qk,Qm];rfl,?_⟩;refine one_ (i:=32) (N:=some 97) (Qg 34 8589934591) rfl rfl (Gf HT_.out (by kernel_rfl)) (by decide) (fun K hK => ?_);refine Wg Try.func43 (by kernel_rfl) rfl #[.int .i64 (wrap64 (Ju+(wrap64 ((rd Z2 ZQ)*((Qo (Yx l0 ZQ) Z3).f0))))),.int .i64 (wrap64 (JP+(wrap64 ((rd Z2 ZQ)*((Qo (Yx l0 ZQ) Z3).f1)))))] (by rfl) rfl rfl (by (try simp only [List.map_toArray,List.map_cons,List.map_nil]);first|done|rfl|(simp only [List.length_drop,List.length_take];rfl)) ?_
          with_reducible refine (QB.calls (wrap64 (Ju+(wrap64 ((rd Z2 ZQ)*((Qo (Yx l0 ZQ) Z3).f0))))) (wrap64 (JP+(wrap64 ((rd Z2 ZQ)*((Qo (Yx l0 ZQ) Z3).f1))))) qkF qmB _ A32.out).mono ?_
          rintro e w35 ⟨rfl,hb⟩;have HS2_:=(hb.cell (World.block_lt_of_cell? _ _ (hHeld.2.2.1))).trans (hHeld.2.2.1);have HS6_:=(hb.cell (World.block_lt_of_cell? _ _ (hHeld.2.2.2.2.2.2.1))).trans (hHeld.2.2.2.2.2.2.1);refine ⟨_,rfl,?_⟩;have n0_:=Q0.mk (Kd.V_below (by (with_reducible repeat (first|apply Kd.V_alloc|apply Kd.V_drewN|apply Kd.V_drew));exact HO_7.out) hb);have n1_:=Q0.mk (Kd.R_below (by (with_reducible repeat (first|apply Kd.R_alloc|apply Kd.R_drewN|apply Kd.R_drew));exact HO_9.out) hb);have n2_:=Q0.mk (Qp (g:=Gj) (by (with_reducible repeat (first|refine Q5 ?_ _|refine Q7 ?_|refine Q3 ?_ _));exact Ji.out) hb);have n3_:=Q0.mk (Qv (by repeat (first|(with_reducible first|exact HB.out|apply Q2|apply Q1|apply Q4|refine Q8 ?_ qdU.out)|exact HB.out)) hb);clear HO_7 HO_9 Ji HB;have HO_7:=n0_;have HO_9:=n1_;have Ji:=n2_;have HB:=n3_;clear n0_ n1_ n2_ n3_
          (try clear hb)
          (try clear hb2)
          (try clear hk)
          (try clear hi)
          refine hK.out _ _ ⟨(Q9 Ji.out 0).trans rfl,(Q9 Ji.out 1).trans rfl,HS2_,((HB.out.cell (World.block_lt_of_cell? w _ qcq)).trans qcq),((HB.out.cell (World.block_lt_of_cell? w _ qcr)).trans qcr),((HB.out.cell (World.block_lt_of_cell? w _ qcs)).trans qcs),HS6_,((HB.out.cell (World.block_lt_of_cell? w _ qct)).trans qct),((HB.out.cell (World.block_lt_of_cell? w _ qcu)).trans qcu),((HB.out.cell (World.block_lt_of_cell? w _ qcv)).trans qcv)⟩ (fun hHeld => ?_);clear hK K;refine G9 (a':=?_) ?_ ?_;rotate_left
          ·
           show Act.put _ (some 97) _=_
           simp only [Qf,Qb,Qe,Qd,Qc,Qk,Qm];rfl
          refine qqa (i:=33) (N:=none) (Qg 34 17179869183) rfl rfl (Gf HT_.out (by kernel_rfl)) (by decide) (fun K hK => ?_);have qGx:w35.cell? ⟨Gj,0,none⟩=some (.int .i64 Ju):=(Q9 Ji.out 0).trans rfl;have qDV:=Qa Ji.out 0;have qGy:w35.cell? ⟨Gj,1,none⟩=some (.int .i64 JP):=(Q9 Ji.out 1).trans rfl;have qDW:=Qa Ji.out 1;refine qgK (w1:=?_) (by rfl) rfl ?_ ?_;rotate_left
          ·
           go_simp;rfl
          refine hK.out _ _ ?_;clear hK K;refine Oz (Ga HT_.out (by kernel_rfl)) ?_
          try go_wp2
          go_roundg k3
          case measure=>have:=HJ4.out;have:=HK2.out;have:=HK3.out;omega
          case rel=>exact ⟨(wrap64 (ZQ+1)),(qkF),(qmB),(by first|rfl|(simp;done)|(simp [*];done)),H',⟨by have:=HJ4.out;have:=HK2.out;have:=HK3.out;omega⟩,⟨by (with_reducible repeat (first|apply Kd.V_alloc|apply Kd.V_drewN|apply Kd.V_drew));exact Kd.V_mono (Kd.V_far (p:=⟨Gj,1,none⟩) (Kd.V_far (p:=⟨Gj,0,none⟩) (Kd.V_mono HO_7.out (fun k_ hk=>(⟨hk,hk.2⟩:_∧k_≠Gj))) (fun _ hk=>hk.2) (.int .i64 qkF)) (fun _ hk=>hk.2) (.int .i64 qmB)) (fun _ hk=>⟨hk.1.1,hk.1.2⟩)⟩,⟨by (with_reducible repeat (first|apply Kd.R_alloc|apply Kd.R_drewN|apply Kd.R_drew));exact Kd.R_mono (Kd.R_far (p:=⟨Gj,1,none⟩) (Kd.R_far (p:=⟨Gj,0,none⟩) (Kd.R_types HO_9.out Ji.out (by decide)) (fun _ hk=>hk.2) (.int .i64 qkF)) (fun _ hk=>hk.2) (.int .i64 qmB)) (fun _ hk=>trivial)⟩,⟨by (with_reducible repeat (first|refine Q5 ?_ _|refine Q7 ?_|refine Q3 ?_ _));refine QG (cs:=#[.int .i64 qkF,.int .i64 JP]) ?_ 1 _ rfl;(with_reducible repeat (first|refine Q5 ?_ _|refine Q7 ?_|refine Q3 ?_ _));refine QG (cs:=#[.int .i64 Ju,.int .i64 JP]) ?_ 0 _ rfl;(with_reducible repeat (first|refine Q5 ?_ _|refine Q7 ?_|refine Q3 ?_ _));exact Ji.out⟩,⟨by repeat (first|(with_reducible first|exact HB.out|apply Q2|apply Q1|apply Q4|refine Q8 ?_ qdU.out)|exact HB.out)⟩⟩
         rw [if_neg c31] at H
         exact absurd H (by simp)
        rw [if_neg c30] at H
        exact absurd H (by simp)
       rw [if_neg c29] at H
       exact absurd H (by simp)
      rw [if_neg c28] at H
      exact absurd H (by simp)
     as_aux_lemma =>
     rw [if_neg c27] at H;have c27b0:decide (ZQ<(l0.length:Int))=false:=decide_eq_false c27;clear c27
     by_cases c38:Yt=true
     ·
      as_aux_lemma =>
      subst c38
      have H1:(if 0≤Z3 then (if Z3<(l1.length:Int) then (if Ju≤(wrap64 (100*((Qo l1 Z3).f1))) then (Q6.l0 k3 l0 l1 l2 Yj Jj Z2 (decide (JP≥(wrap64 (100*((Qo l1 Z3).f0))))) (wrap64 (Z3+1))) else (Q6.l0 k3 l0 l1 l2 Yj Jj Z2 false (wrap64 (Z3+1)))) else (none)) else (none))=some r:=by rw [if_pos rfl] at H;exact H
      clear H;have H:=H1;clear H1
      by_cases c39:0≤Z3
      ·
       as_aux_lemma =>
       rw [if_pos c39] at H;have c39b0:decide (0≤Z3)=true:=decide_eq_true c39;clear c39
       by_cases c40:Z3<(l1.length:Int)
       ·
        as_aux_lemma =>
        rw [if_pos c40] at H;have c40b0:decide (Z3<(l1.length:Int))=true:=decide_eq_true c40;clear c40
        by_cases c41:Ju≤(wrap64 (100*((Qo l1 Z3).f1)))
        ·
         as_aux_lemma =>
         rw [if_pos c41] at H;have c41b0:decide (Ju≤(wrap64 (100*((Qo l1 Z3).f1))))=true:=decide_eq_true c41;clear c41;have H':=Q0.mk H;clear H
         try go_wp2
         have n0_:=Q0.mk (Kd.V_drew HO_7.out);have n1_:=Q0.mk (Kd.R_drew HO_9.out);have n2_:=Q0.mk (Q7 Ji.out);have n3_:=Q0.mk (Q4 HB.out);clear HO_7 HO_9 Ji HB;have HO_7:=n0_;have HO_9:=n1_;have Ji:=n2_;have HB:=n3_;clear n0_ n1_ n2_ n3_;have qdE:0≤(Z3:Int):=of_decide_eq_true (by first|(with_reducible assumption)|assumption);have qdG:Z3<(l1.length:Int):=of_decide_eq_true (by first|(with_reducible assumption)|assumption);obtain ⟨WG,qqB,GI,GJ⟩:=ZD HR1.out Z3 qdE qdG;have qaC:=GJ;have qaB:=GI;cases qqB;replace GI:=(HB.out.cell (World.block_lt_of_cell? w _ GI)).trans GI;replace GJ:=(HB.out.cell (World.block_lt_of_cell? w _ GJ)).trans GJ;replace qdE:=eq_true qdE;replace qdG:=eq_true qdG;have qre:0≤(Z3:Int):=of_decide_eq_true (by first|(with_reducible assumption)|assumption);have qrs:Z3<(l1.length:Int):=of_decide_eq_true (by first|(with_reducible assumption)|assumption);obtain ⟨qsE,qBA,qaK,qaL⟩:=ZD HR1.out Z3 qre qrs;have qjv:=qaL;have qju:=qaK;obtain rfl:WG=qsE:=(by injection qBA);replace qaK:=(HB.out.cell (World.block_lt_of_cell? w _ qaK)).trans qaK;replace qaL:=(HB.out.cell (World.block_lt_of_cell? w _ qaL)).trans qaL;replace qre:=eq_true qre;replace qrs:=eq_true qrs;refine GU (n:=24) (S:=fun w'=>w'.cell? ⟨Gj,0,none⟩=some (.int .i64 Ju)∧w'.cell? ⟨Gj,1,none⟩=some (.int .i64 JP)∧w'.cell? (WG.add ((Z3).toNat*2))=some (.int .i64 ((Qo l1 Z3).f0))∧w'.cell? ⟨(WG.add ((Z3).toNat*2)).block,(WG.add ((Z3).toNat*2)).off+1,none⟩=some (.int .i64 ((Qo l1 Z3).f1))∧w'.cell? (WG.add ((Z3).toNat*2))=some (.int .i64 ((Qo l1 Z3).f0))∧w'.cell? ⟨(WG.add ((Z3).toNat*2)).block,(WG.add ((Z3).toNat*2)).off+1,none⟩=some (.int .i64 ((Qo l1 Z3).f1))) (ds:=[]) (Qg 24 0) (by kernel_rfl) rfl rfl ⟨(Q9 Ji.out 0).trans rfl,(Q9 Ji.out 1).trans rfl,((HB.out.cell (World.block_lt_of_cell? w _ qaB)).trans qaB),((HB.out.cell (World.block_lt_of_cell? w _ qaC)).trans qaC),((HB.out.cell (World.block_lt_of_cell? w _ qju)).trans qju),((HB.out.cell (World.block_lt_of_cell? w _ qjv)).trans qjv)⟩ (fun hHeld => ?_);refine Jn Q6.tab14 Q6.bits14 (fun HT_ HW_ => ?_)
         generalize wr.drew=w42 at HO_7 HO_9 Ji HB GI GJ qaK qaL hHeld ⊢
         refine Qh 0 (some 98) (Qg 24 1) rfl rfl HT_.out (by kernel_rfl) (fun _ _ _ h=>h) ⟨.inl ⟨by rfl,fun w'=>by go_simp;with_reducible rfl⟩,by simp only [Qf,Qb,Qe,Qd,Qc,Qk,Qm];rfl,?_⟩;refine Qh 1 (some 99) (Qg 24 3) rfl rfl HT_.out (by kernel_rfl) (fun _ _ _ h=>h) ⟨.inl ⟨by rfl,fun w'=>by go_simp;with_reducible rfl⟩,by simp only [Qf,Qb,Qe,Qd,Qc,Qk,Qm];rfl,?_⟩;refine Qh 2 (some 100) (Qg 24 7) rfl rfl HT_.out (by kernel_rfl) (fun _ _ _ h=>h) ⟨.inl ⟨by rfl,fun w'=>by go_simp;with_reducible rfl⟩,by simp only [Qf,Qb,Qe,Qd,Qc,Qk,Qm];rfl,?_⟩;refine Qh 4 (some 102) (Qg 24 23) rfl rfl HT_.out (by kernel_rfl) (fun _ _ _ h=>h) ⟨.inl ⟨by rfl,fun w'=>by go_simp;with_reducible rfl⟩,by simp only [Qf,Qb,Qe,Qd,Qc,Qk,Qm];rfl,?_⟩;refine Qh 5 (some 103) (Qg 24 55) rfl rfl HT_.out (by kernel_rfl) (fun _ _ _ h=>h) ⟨.inl ⟨by rfl,fun w'=>by go_simp;with_reducible rfl⟩,by simp only [Qf,Qb,Qe,Qd,Qc,Qk,Qm];rfl,?_⟩;refine Qh 6 (some 104) (Qg 24 119) rfl rfl HT_.out (by kernel_rfl) (fun _ _ _ h=>h) ⟨.inl ⟨by rfl,fun w'=>by go_simp;with_reducible rfl⟩,by simp only [Qf,Qb,Qe,Qd,Qc,Qk,Qm];rfl,?_⟩;refine Qh 7 (some 105) (Qg 24 247) rfl rfl HT_.out (by kernel_rfl) (fun _ _ _ h=>h) ⟨.inl ⟨by rfl,fun w'=>by go_simp;with_reducible rfl⟩,by simp only [Qf,Qb,Qe,Qd,Qc,Qk,Qm];rfl,?_⟩;refine Yn 3 (some 101) (Qg 24 255) rfl rfl (Yo HT_.out HW_.out (by kernel_rfl)) (fun _ _ _ h=>h) hHeld ⟨.inl ⟨by rfl,by rintro w' ⟨s0,s1,s2,s3,s4,s5⟩;go_simp;with_reducible rfl⟩,by simp only [Qf,Qb,Qe,Qd,Qc,Qk,Qm];rfl,?_⟩;refine Yn 8 (some 106) (Qg 24 511) rfl rfl (Yo HT_.out HW_.out (by kernel_rfl)) (fun _ _ _ h=>h) hHeld ⟨.inl ⟨by rfl,by rintro w' ⟨s0,s1,s2,s3,s4,s5⟩;go_simp;with_reducible rfl⟩,by simp only [Qf,Qb,Qe,Qd,Qc,Qk,Qm];rfl,?_⟩;refine Qh 9 (some 107) (Qg 24 1023) rfl rfl HT_.out (by kernel_rfl) (fun _ _ _ h=>h) ⟨.inl ⟨by rfl,fun w'=>by go_simp;with_reducible rfl⟩,by simp only [Qf,Qb,Qe,Qd,Qc,Qk,Qm];rfl,?_⟩;refine Qh 10 (some 108) (Qg 24 2047) rfl rfl HT_.out (by kernel_rfl) (fun _ _ _ h=>h) ⟨.inl ⟨by rfl,fun w'=>by go_simp;with_reducible rfl⟩,by simp only [Qf,Qb,Qe,Qd,Qc,Qk,Qm];rfl,?_⟩;refine Qh 11 (some 109) (Qg 24 4095) rfl rfl HT_.out (by kernel_rfl) (fun _ _ _ h=>h) ⟨.inl ⟨by rfl,fun w'=>by go_simp;with_reducible rfl⟩,by simp only [Qf,Qb,Qe,Qd,Qc,Qk,Qm];rfl,?_⟩;refine Qh 12 (some 110) (Qg 24 8191) rfl rfl HT_.out (by kernel_rfl) (fun _ _ _ h=>h) ⟨.inl ⟨by rfl,fun w'=>by go_simp;with_reducible rfl⟩,by simp only [Qf,Qb,Qe,Qd,Qc,Qk,Qm];rfl,?_⟩;refine Qh 13 (some 111) (Qg 24 16383) rfl rfl HT_.out (by kernel_rfl) (fun _ _ _ h=>h) ⟨.inl ⟨by rfl,fun w'=>by go_simp;with_reducible rfl⟩,by simp only [Qf,Qb,Qe,Qd,Qc,Qk,Qm];rfl,?_⟩;refine Qh 15 (some 113) (Qg 24 49151) rfl rfl HT_.out (by kernel_rfl) (fun _ _ _ h=>h) ⟨.inl ⟨by rfl,fun w'=>by go_simp;with_reducible rfl⟩,by simp only [Qf,Qb,Qe,Qd,Qc,Qk,Qm];rfl,?_⟩;refine Qh 16 (some 114) (Qg 24 114687) rfl rfl HT_.out (by kernel_rfl) (fun _ _ _ h=>h) ⟨.inl ⟨by rfl,fun w'=>by go_simp;with_reducible rfl⟩,by simp only [Qf,Qb,Qe,Qd,Qc,Qk,Qm];rfl,?_⟩;refine Qh 17 (some 115) (Qg 24 245759) rfl rfl HT_.out (by kernel_rfl) (fun _ _ _ h=>h) ⟨.inl ⟨by rfl,fun w'=>by go_simp;with_reducible rfl⟩,by simp only [Qf,Qb,Qe,Qd,Qc,Qk,Qm];rfl,?_⟩;refine Qh 18 (some 116) (Qg 24 507903) rfl rfl HT_.out (by kernel_rfl) (fun _ _ _ h=>h) ⟨.inl ⟨by rfl,fun w'=>by go_simp;with_reducible rfl⟩,by simp only [Qf,Qb,Qe,Qd,Qc,Qk,Qm];rfl,?_⟩;refine Yn 14 (some 112) (Qg 24 524287) rfl rfl (Yo HT_.out HW_.out (by kernel_rfl)) (fun _ _ _ h=>h) hHeld ⟨.inl ⟨by rfl,by rintro w' ⟨s0,s1,s2,s3,s4,s5⟩;go_simp;with_reducible rfl⟩,by simp only [Qf,Qb,Qe,Qd,Qc,Qk,Qm];rfl,?_⟩;refine Yn 19 (some 117) (Qg 24 1048575) rfl rfl (Yo HT_.out HW_.out (by kernel_rfl)) (fun _ _ _ h=>h) hHeld ⟨.inl ⟨by rfl,by rintro w' ⟨s0,s1,s2,s3,s4,s5⟩;go_simp;with_reducible rfl⟩,by simp only [Qf,Qb,Qe,Qd,Qc,Qk,Qm];rfl,?_⟩;refine Qh 20 (some 118) (Qg 24 2097151) rfl rfl HT_.out (by kernel_rfl) (fun _ _ _ h=>h) ⟨.inl ⟨by rfl,fun w'=>by go_simp;with_reducible rfl⟩,by simp only [Qf,Qb,Qe,Qd,Qc,Qk,Qm];rfl,?_⟩;refine Qh 21 (some 119) (Qg 24 4194303) rfl rfl HT_.out (by kernel_rfl) (fun _ _ _ h=>h) ⟨.inl ⟨by rfl,fun w'=>by go_simp;with_reducible rfl⟩,by simp only [Qf,Qb,Qe,Qd,Qc,Qk,Qm];rfl,?_⟩;refine Qh 22 (some 120) (Qg 24 8388607) rfl rfl HT_.out (by kernel_rfl) (fun _ _ _ h=>h) ⟨.inl ⟨by rfl,fun w'=>by go_simp;with_reducible rfl⟩,by simp only [Qf,Qb,Qe,Qd,Qc,Qk,Qm];rfl,?_⟩;refine Qh 23 (some 10) (Qg 24 16777215) rfl rfl HT_.out (by kernel_rfl) (fun _ _ _ h=>h) ⟨.inl ⟨by rfl,fun w'=>by go_simp;with_reducible rfl⟩,by simp only [Qf,Qb,Qe,Qd,Qc,Qk,Qm];rfl,?_⟩;refine Oz (Ga HT_.out (by kernel_rfl)) ?_
         try go_wp2
         go_roundg k3
         case measure=>have:=HJ4.out;have:=HK2.out;have:=HK3.out;omega
         case rel=>exact ⟨(decide (JP≥(wrap64 (100*((Qo l1 Z3).f0))))),(wrap64 (Z3+1)),(by first|rfl|(simp;done)|(simp [*];done)),(by first|rfl|(simp;done)|(simp [*];done)),H',⟨by have:=HJ4.out;have:=HK2.out;have:=HK3.out;omega⟩,⟨by (with_reducible repeat (first|apply Kd.V_alloc|apply Kd.V_drewN|apply Kd.V_drew));exact Kd.V_mono HO_7.out (fun _ hk=>by first|exact hk.1|exact hk.2)⟩,⟨by (with_reducible repeat (first|apply Kd.R_alloc|apply Kd.R_drewN|apply Kd.R_drew));exact HO_9.out⟩,⟨by repeat (first|(with_reducible first|exact HB.out|apply Q2|apply Q1|apply Q4|refine Q8 ?_ qdU.out)|exact HB.out)⟩⟩
        as_aux_lemma =>
        rw [if_neg c41] at H;have c41b0:decide (Ju≤(wrap64 (100*((Qo l1 Z3).f1))))=false:=decide_eq_false c41;clear c41;have H':=Q0.mk H;clear H
        try go_wp2
        have n0_:=Q0.mk (Kd.V_drew HO_7.out);have n1_:=Q0.mk (Kd.R_drew HO_9.out);have n2_:=Q0.mk (Q7 Ji.out);have n3_:=Q0.mk (Q4 HB.out);clear HO_7 HO_9 Ji HB;have HO_7:=n0_;have HO_9:=n1_;have Ji:=n2_;have HB:=n3_;clear n0_ n1_ n2_ n3_;have qdE:0≤(Z3:Int):=of_decide_eq_true (by first|(with_reducible assumption)|assumption);have qdG:Z3<(l1.length:Int):=of_decide_eq_true (by first|(with_reducible assumption)|assumption);obtain ⟨WG,qqB,GI,GJ⟩:=ZD HR1.out Z3 qdE qdG;have qaC:=GJ;have qaB:=GI;cases qqB;replace GI:=(HB.out.cell (World.block_lt_of_cell? w _ GI)).trans GI;replace GJ:=(HB.out.cell (World.block_lt_of_cell? w _ GJ)).trans GJ;replace qdE:=eq_true qdE;replace qdG:=eq_true qdG;refine GU (n:=24) (S:=fun w'=>w'.cell? ⟨Gj,0,none⟩=some (.int .i64 Ju)∧w'.cell? ⟨Gj,1,none⟩=some (.int .i64 JP)∧w'.cell? (WG.add ((Z3).toNat*2))=some (.int .i64 ((Qo l1 Z3).f0))∧w'.cell? ⟨(WG.add ((Z3).toNat*2)).block,(WG.add ((Z3).toNat*2)).off+1,none⟩=some (.int .i64 ((Qo l1 Z3).f1))) (ds:=[]) (Qg 24 0) (by kernel_rfl) rfl rfl ⟨(Q9 Ji.out 0).trans rfl,(Q9 Ji.out 1).trans rfl,((HB.out.cell (World.block_lt_of_cell? w _ qaB)).trans qaB),((HB.out.cell (World.block_lt_of_cell? w _ qaC)).trans qaC)⟩ (fun hHeld => ?_);refine Jn Q6.tab14 Q6.bits14 (fun HT_ HW_ => ?_)
        generalize wr.drew=w43 at HO_7 HO_9 Ji HB GI GJ hHeld ⊢
        refine Qh 0 (some 98) (Qg 24 1) rfl rfl HT_.out (by kernel_rfl) (fun _ _ _ h=>h) ⟨.inl ⟨by rfl,fun w'=>by go_simp;with_reducible rfl⟩,by simp only [Qf,Qb,Qe,Qd,Qc,Qk,Qm];rfl,?_⟩;refine Qh 1 (some 99) (Qg 24 3) rfl rfl HT_.out (by kernel_rfl) (fun _ _ _ h=>h) ⟨.inl ⟨by rfl,fun w'=>by go_simp;with_reducible rfl⟩,by simp only [Qf,Qb,Qe,Qd,Qc,Qk,Qm];rfl,?_⟩;refine Qh 2 (some 100) (Qg 24 7) rfl rfl HT_.out (by kernel_rfl) (fun _ _ _ h=>h) ⟨.inl ⟨by rfl,fun w'=>by go_simp;with_reducible rfl⟩,by simp only [Qf,Qb,Qe,Qd,Qc,Qk,Qm];rfl,?_⟩;refine Qh 4 (some 102) (Qg 24 23) rfl rfl HT_.out (by kernel_rfl) (fun _ _ _ h=>h) ⟨.inl ⟨by rfl,fun w'=>by go_simp;with_reducible rfl⟩,by simp only [Qf,Qb,Qe,Qd,Qc,Qk,Qm];rfl,?_⟩;refine Qh 5 (some 103) (Qg 24 55) rfl rfl HT_.out (by kernel_rfl) (fun _ _ _ h=>h) ⟨.inl ⟨by rfl,fun w'=>by go_simp;with_reducible rfl⟩,by simp only [Qf,Qb,Qe,Qd,Qc,Qk,Qm];rfl,?_⟩;refine Qh 6 (some 104) (Qg 24 119) rfl rfl HT_.out (by kernel_rfl) (fun _ _ _ h=>h) ⟨.inl ⟨by rfl,fun w'=>by go_simp;with_reducible rfl⟩,by simp only [Qf,Qb,Qe,Qd,Qc,Qk,Qm];rfl,?_⟩;refine Qh 7 (some 105) (Qg 24 247) rfl rfl HT_.out (by kernel_rfl) (fun _ _ _ h=>h) ⟨.inl ⟨by rfl,fun w'=>by go_simp;with_reducible rfl⟩,by simp only [Qf,Qb,Qe,Qd,Qc,Qk,Qm];rfl,?_⟩;refine Yn 3 (some 101) (Qg 24 255) rfl rfl (Yo HT_.out HW_.out (by kernel_rfl)) (fun _ _ _ h=>h) hHeld ⟨.inl ⟨by rfl,by rintro w' ⟨s0,s1,s2,s3⟩;go_simp;with_reducible rfl⟩,by simp only [Qf,Qb,Qe,Qd,Qc,Qk,Qm];rfl,?_⟩;refine Yn 8 (some 106) (Qg 24 511) rfl rfl (Yo HT_.out HW_.out (by kernel_rfl)) (fun _ _ _ h=>h) hHeld ⟨.inl ⟨by rfl,by rintro w' ⟨s0,s1,s2,s3⟩;go_simp;with_reducible rfl⟩,by simp only [Qf,Qb,Qe,Qd,Qc,Qk,Qm];rfl,?_⟩;refine Qh 9 (some 107) (Qg 24 1023) rfl rfl HT_.out (by kernel_rfl) (fun _ _ _ h=>h) ⟨.inl ⟨by rfl,fun w'=>by go_simp;with_reducible rfl⟩,by simp only [Qf,Qb,Qe,Qd,Qc,Qk,Qm];rfl,?_⟩;refine Qh 10 (some 108) (Qg 24 2047) rfl rfl HT_.out (by kernel_rfl) (fun _ _ _ h=>h) ⟨.inl ⟨by rfl,fun w'=>by go_simp;with_reducible rfl⟩,by simp only [Qf,Qb,Qe,Qd,Qc,Qk,Qm];rfl,?_⟩;refine Qh 11 (some 109) (Qg 24 4095) rfl rfl HT_.out (by kernel_rfl) (fun _ _ _ h=>h) ⟨.inl ⟨by rfl,fun w'=>by go_simp;with_reducible rfl⟩,by simp only [Qf,Qb,Qe,Qd,Qc,Qk,Qm];rfl,?_⟩;refine Qh 12 (some 110) (Qg 24 8191) rfl rfl HT_.out (by kernel_rfl) (fun _ _ _ h=>h) ⟨.inl ⟨by rfl,fun w'=>by go_simp;with_reducible rfl⟩,by simp only [Qf,Qb,Qe,Qd,Qc,Qk,Qm];rfl,?_⟩;refine Qh 13 (some 111) (Qg 24 16383) rfl rfl HT_.out (by kernel_rfl) (fun _ _ _ h=>h) ⟨.inr ⟨by rfl,rfl⟩,by simp only [Qf,Qb,Qe,Qd,Qc,Qk,Qm];rfl,?_⟩;refine Qh 14 (some 112) (Qg 24 32767) rfl rfl HT_.out (by kernel_rfl) (fun _ _ _ h=>h) ⟨.inr ⟨by rfl,rfl⟩,by simp only [Qf,Qb,Qe,Qd,Qc,Qk,Qm];rfl,?_⟩;refine Qh 15 (some 113) (Qg 24 65535) rfl rfl HT_.out (by kernel_rfl) (fun _ _ _ h=>h) ⟨.inr ⟨by rfl,rfl⟩,by simp only [Qf,Qb,Qe,Qd,Qc,Qk,Qm];rfl,?_⟩;refine Qh 16 (some 114) (Qg 24 131071) rfl rfl HT_.out (by kernel_rfl) (fun _ _ _ h=>h) ⟨.inr ⟨by rfl,rfl⟩,by simp only [Qf,Qb,Qe,Qd,Qc,Qk,Qm];rfl,?_⟩;refine Qh 17 (some 115) (Qg 24 262143) rfl rfl HT_.out (by kernel_rfl) (fun _ _ _ h=>h) ⟨.inr ⟨by rfl,rfl⟩,by simp only [Qf,Qb,Qe,Qd,Qc,Qk,Qm];rfl,?_⟩;refine Qh 18 (some 116) (Qg 24 524287) rfl rfl HT_.out (by kernel_rfl) (fun _ _ _ h=>h) ⟨.inr ⟨by rfl,rfl⟩,by simp only [Qf,Qb,Qe,Qd,Qc,Qk,Qm];rfl,?_⟩;refine Qh 19 (some 117) (Qg 24 1048575) rfl rfl HT_.out (by kernel_rfl) (fun _ _ _ h=>h) ⟨.inr ⟨by rfl,rfl⟩,by simp only [Qf,Qb,Qe,Qd,Qc,Qk,Qm];rfl,?_⟩;refine Qh 20 (some 118) (Qg 24 2097151) rfl rfl HT_.out (by kernel_rfl) (fun _ _ _ h=>h) ⟨.inr ⟨by rfl,rfl⟩,by simp only [Qf,Qb,Qe,Qd,Qc,Qk,Qm];rfl,?_⟩;refine Qh 21 (some 119) (Qg 24 4194303) rfl rfl HT_.out (by kernel_rfl) (fun _ _ _ h=>h) ⟨.inr ⟨by rfl,rfl⟩,by simp only [Qf,Qb,Qe,Qd,Qc,Qk,Qm];rfl,?_⟩;refine Qh 22 (some 120) (Qg 24 8388607) rfl rfl HT_.out (by kernel_rfl) (fun _ _ _ h=>h) ⟨.inl ⟨by rfl,fun w'=>by go_simp;with_reducible rfl⟩,by simp only [Qf,Qb,Qe,Qd,Qc,Qk,Qm];rfl,?_⟩;refine Qh 23 (some 10) (Qg 24 16777215) rfl rfl HT_.out (by kernel_rfl) (fun _ _ _ h=>h) ⟨.inl ⟨by rfl,fun w'=>by go_simp;with_reducible rfl⟩,by simp only [Qf,Qb,Qe,Qd,Qc,Qk,Qm];rfl,?_⟩;refine Oz (Ga HT_.out (by kernel_rfl)) ?_
        try go_wp2
        go_roundg k3
        case measure=>have:=HJ4.out;have:=HK2.out;have:=HK3.out;omega
        case rel=>exact ⟨(false),(wrap64 (Z3+1)),(by first|rfl|(simp;done)|(simp [*];done)),(by first|rfl|(simp;done)|(simp [*];done)),H',⟨by have:=HJ4.out;have:=HK2.out;have:=HK3.out;omega⟩,⟨by (with_reducible repeat (first|apply Kd.V_alloc|apply Kd.V_drewN|apply Kd.V_drew));exact Kd.V_mono HO_7.out (fun _ hk=>by first|exact hk.1|exact hk.2)⟩,⟨by (with_reducible repeat (first|apply Kd.R_alloc|apply Kd.R_drewN|apply Kd.R_drew));exact HO_9.out⟩,⟨by repeat (first|(with_reducible first|exact HB.out|apply Q2|apply Q1|apply Q4|refine Q8 ?_ qdU.out)|exact HB.out)⟩⟩
       rw [if_neg c40] at H
       exact absurd H (by simp)
      rw [if_neg c39] at H
      exact absurd H (by simp)
     as_aux_lemma =>
     replace c38:=Bool.eq_false_iff.mpr c38;subst c38
     have H1:(Q6.l0 k3 l0 l1 l2 Yj Jj Z2 false (wrap64 (Z3+1)))=some r:=by rw [if_neg (show ¬ (false=true) by decide)] at H;exact H
     clear H;have H:=H1;clear H1;have H':=Q0.mk H;clear H
     try go_wp2
     have n0_:=Q0.mk (Kd.V_drew HO_7.out);have n1_:=Q0.mk (Kd.R_drew HO_9.out);have n2_:=Q0.mk (Q7 Ji.out);have n3_:=Q0.mk (Q4 HB.out);clear HO_7 HO_9 Ji HB;have HO_7:=n0_;have HO_9:=n1_;have Ji:=n2_;have HB:=n3_;clear n0_ n1_ n2_ n3_;refine GU (n:=24) (S:=fun w'=>True) (ds:=[]) (Qg 24 0) (by kernel_rfl) rfl rfl trivial (fun hHeld => ?_);refine Jn Q6.tab14 Q6.bits14 (fun HT_ HW_ => ?_)
     generalize wr.drew=w44 at HO_7 HO_9 Ji HB hHeld ⊢
     refine Qh 0 (some 98) (Qg 24 1) rfl rfl HT_.out (by kernel_rfl) (fun _ _ _ h=>h) ⟨.inl ⟨by rfl,fun w'=>by go_simp;with_reducible rfl⟩,by simp only [Qf,Qb,Qe,Qd,Qc,Qk,Qm];rfl,?_⟩;refine Qh 1 (some 99) (Qg 24 3) rfl rfl HT_.out (by kernel_rfl) (fun _ _ _ h=>h) ⟨.inl ⟨by rfl,fun w'=>by go_simp;with_reducible rfl⟩,by simp only [Qf,Qb,Qe,Qd,Qc,Qk,Qm];rfl,?_⟩;refine Qh 2 (some 100) (Qg 24 7) rfl rfl HT_.out (by kernel_rfl) (fun _ _ _ h=>h) ⟨.inr ⟨by rfl,rfl⟩,by simp only [Qf,Qb,Qe,Qd,Qc,Qk,Qm];rfl,?_⟩;refine Qh 3 (some 101) (Qg 24 15) rfl rfl HT_.out (by kernel_rfl) (fun _ _ _ h=>h) ⟨.inr ⟨by rfl,rfl⟩,by simp only [Qf,Qb,Qe,Qd,Qc,Qk,Qm];rfl,?_⟩;refine Qh 4 (some 102) (Qg 24 31) rfl rfl HT_.out (by kernel_rfl) (fun _ _ _ h=>h) ⟨.inr ⟨by rfl,rfl⟩,by simp only [Qf,Qb,Qe,Qd,Qc,Qk,Qm];rfl,?_⟩;refine Qh 5 (some 103) (Qg 24 63) rfl rfl HT_.out (by kernel_rfl) (fun _ _ _ h=>h) ⟨.inr ⟨by rfl,rfl⟩,by simp only [Qf,Qb,Qe,Qd,Qc,Qk,Qm];rfl,?_⟩;refine Qh 6 (some 104) (Qg 24 127) rfl rfl HT_.out (by kernel_rfl) (fun _ _ _ h=>h) ⟨.inr ⟨by rfl,rfl⟩,by simp only [Qf,Qb,Qe,Qd,Qc,Qk,Qm];rfl,?_⟩;refine Qh 7 (some 105) (Qg 24 255) rfl rfl HT_.out (by kernel_rfl) (fun _ _ _ h=>h) ⟨.inr ⟨by rfl,rfl⟩,by simp only [Qf,Qb,Qe,Qd,Qc,Qk,Qm];rfl,?_⟩;refine Qh 8 (some 106) (Qg 24 511) rfl rfl HT_.out (by kernel_rfl) (fun _ _ _ h=>h) ⟨.inr ⟨by rfl,rfl⟩,by simp only [Qf,Qb,Qe,Qd,Qc,Qk,Qm];rfl,?_⟩;refine Qh 9 (some 107) (Qg 24 1023) rfl rfl HT_.out (by kernel_rfl) (fun _ _ _ h=>h) ⟨.inr ⟨by rfl,rfl⟩,by simp only [Qf,Qb,Qe,Qd,Qc,Qk,Qm];rfl,?_⟩;refine Qh 10 (some 108) (Qg 24 2047) rfl rfl HT_.out (by kernel_rfl) (fun _ _ _ h=>h) ⟨.inr ⟨by rfl,rfl⟩,by simp only [Qf,Qb,Qe,Qd,Qc,Qk,Qm];rfl,?_⟩;refine Qh 11 (some 109) (Qg 24 4095) rfl rfl HT_.out (by kernel_rfl) (fun _ _ _ h=>h) ⟨.inl ⟨by rfl,fun w'=>by go_simp;with_reducible rfl⟩,by simp only [Qf,Qb,Qe,Qd,Qc,Qk,Qm];rfl,?_⟩;refine Qh 12 (some 110) (Qg 24 8191) rfl rfl HT_.out (by kernel_rfl) (fun _ _ _ h=>h) ⟨.inl ⟨by rfl,fun w'=>by go_simp;with_reducible rfl⟩,by simp only [Qf,Qb,Qe,Qd,Qc,Qk,Qm];rfl,?_⟩;refine Qh 13 (some 111) (Qg 24 16383) rfl rfl HT_.out (by kernel_rfl) (fun _ _ _ h=>h) ⟨.inr ⟨by rfl,rfl⟩,by simp only [Qf,Qb,Qe,Qd,Qc,Qk,Qm];rfl,?_⟩;refine Qh 14 (some 112) (Qg 24 32767) rfl rfl HT_.out (by kernel_rfl) (fun _ _ _ h=>h) ⟨.inr ⟨by rfl,rfl⟩,by simp only [Qf,Qb,Qe,Qd,Qc,Qk,Qm];rfl,?_⟩;refine Qh 15 (some 113) (Qg 24 65535) rfl rfl HT_.out (by kernel_rfl) (fun _ _ _ h=>h) ⟨.inr ⟨by rfl,rfl⟩,by simp only [Qf,Qb,Qe,Qd,Qc,Qk,Qm];rfl,?_⟩;refine Qh 16 (some 114) (Qg 24 131071) rfl rfl HT_.out (by kernel_rfl) (fun _ _ _ h=>h) ⟨.inr ⟨by rfl,rfl⟩,by simp only [Qf,Qb,Qe,Qd,Qc,Qk,Qm];rfl,?_⟩;refine Qh 17 (some 115) (Qg 24 262143) rfl rfl HT_.out (by kernel_rfl) (fun _ _ _ h=>h) ⟨.inr ⟨by rfl,rfl⟩,by simp only [Qf,Qb,Qe,Qd,Qc,Qk,Qm];rfl,?_⟩;refine Qh 18 (some 116) (Qg 24 524287) rfl rfl HT_.out (by kernel_rfl) (fun _ _ _ h=>h) ⟨.inr ⟨by rfl,rfl⟩,by simp only [Qf,Qb,Qe,Qd,Qc,Qk,Qm];rfl,?_⟩;refine Qh 19 (some 117) (Qg 24 1048575) rfl rfl HT_.out (by kernel_rfl) (fun _ _ _ h=>h) ⟨.inr ⟨by rfl,rfl⟩,by simp only [Qf,Qb,Qe,Qd,Qc,Qk,Qm];rfl,?_⟩;refine Qh 20 (some 118) (Qg 24 2097151) rfl rfl HT_.out (by kernel_rfl) (fun _ _ _ h=>h) ⟨.inr ⟨by rfl,rfl⟩,by simp only [Qf,Qb,Qe,Qd,Qc,Qk,Qm];rfl,?_⟩;refine Qh 21 (some 119) (Qg 24 4194303) rfl rfl HT_.out (by kernel_rfl) (fun _ _ _ h=>h) ⟨.inr ⟨by rfl,rfl⟩,by simp only [Qf,Qb,Qe,Qd,Qc,Qk,Qm];rfl,?_⟩;refine Qh 22 (some 120) (Qg 24 8388607) rfl rfl HT_.out (by kernel_rfl) (fun _ _ _ h=>h) ⟨.inl ⟨by rfl,fun w'=>by go_simp;with_reducible rfl⟩,by simp only [Qf,Qb,Qe,Qd,Qc,Qk,Qm];rfl,?_⟩;refine Qh 23 (some 10) (Qg 24 16777215) rfl rfl HT_.out (by kernel_rfl) (fun _ _ _ h=>h) ⟨.inl ⟨by rfl,fun w'=>by go_simp;with_reducible rfl⟩,by simp only [Qf,Qb,Qe,Qd,Qc,Qk,Qm];rfl,?_⟩;refine Oz (Ga HT_.out (by kernel_rfl)) ?_
     try go_wp2
     go_roundg k3
     case measure=>have:=HJ4.out;have:=HK2.out;have:=HK3.out;omega
     case rel=>exact ⟨(false),(wrap64 (Z3+1)),(by first|rfl|(simp;done)|(simp [*];done)),(by first|rfl|(simp;done)|(simp [*];done)),H',⟨by have:=HJ4.out;have:=HK2.out;have:=HK3.out;omega⟩,⟨by (with_reducible repeat (first|apply Kd.V_alloc|apply Kd.V_drewN|apply Kd.V_drew));exact Kd.V_mono HO_7.out (fun _ hk=>by first|exact hk.1|exact hk.2)⟩,⟨by (with_reducible repeat (first|apply Kd.R_alloc|apply Kd.R_drewN|apply Kd.R_drew));exact HO_9.out⟩,⟨by repeat (first|(with_reducible first|exact HB.out|apply Q2|apply Q1|apply Q4|refine Q8 ?_ qdU.out)|exact HB.out)⟩⟩
   as_aux_lemma =>
   rw [if_neg c22] at H
   have c22b0:decide (Z3<(l1.length:Int))=false:=decide_eq_false c22
   clear c22
   have qql:=Q0.mk H
   clear H
   go_upto_region 15 with (fail)
   go_cut [141] (fun v141 wc => ∃ (kq:Nat) (qcG:Bool),v141 = .bool qcG∧Q0 (Q6.j3 kq l0 l1 l2 Yj Jj Z2 Yt qcG=some r)∧Q0 (kq≤k2)∧Q0 (Kd.V k25 25 wc w.heap.size (fun k_=>some k_≠(U6:Value).ownBlock) qdQ Yj)∧Q0 (Kd.R (Kd.int .i64) 3 wc w.heap.size (fun _=>True) U6 Z2)∧Q0 (Below w.heap.size w wc))
   case first =>
    have H:=qql.out;clear qql
    by_cases c46:Jj=0
    ·
     as_aux_lemma =>
     rw [if_pos c46] at H;have c46b0:(Jj==0)=true:=beq_iff_eq.mpr c46;have c46b1:(Jj != 0)=false:=bne_eq_false_iff_eq.mpr c46;clear c46
     (first|rw [c46b0]|(simp only [Qk,Qm];rw [c46b0])|skip)
     have H':=Q0.mk H;clear H;obtain ⟨qFu,qFN,qBR⟩:=Kd.V_slice HO_7.out;subst qBR
     go_wp2
     go_meet
     case rel=>exact ⟨_,(((Yj.length:Int) != (l0.length:Int))),(by first|rfl|(simp;done)|(simp [*];done)),H',⟨by have:=HJ4.out;have:=HK2.out;first|omega|exact Nat.le_refl _⟩,⟨by (with_reducible repeat (first|apply Kd.V_alloc|apply Kd.V_drewN|apply Kd.V_drew));exact HO_7.out⟩,⟨by (with_reducible repeat (first|apply Kd.R_alloc|apply Kd.R_drewN|apply Kd.R_drew));exact HO_9.out⟩,⟨by repeat (first|(with_reducible first|exact HB.out|apply Q2|apply Q1|apply Q4)|exact HB.out)⟩⟩
    as_aux_lemma =>
    rw [if_neg c46] at H;have c46b0:(Jj==0)=false:=beq_eq_false_iff_ne.mpr c46;have c46b1:(Jj != 0)=true:=bne_iff_ne.mpr c46
    (first|rw [c46b0]|(simp only [Qk,Qm];rw [c46b0])|skip)
    by_cases c48:Yt=true
    ·
     subst c48
     have H1:(Q6.j3 k2 l0 l1 l2 Yj Jj Z2 true true)=some r:=by rw [if_pos rfl] at H;exact H
     clear H;have H:=H1;clear H1;have H':=Q0.mk H;clear H
     go_wp2
     go_meet
     case rel=>exact ⟨_,(true),(by first|rfl|(simp;done)|(simp [*];done)),H',⟨by have:=HJ4.out;have:=HK2.out;first|omega|exact Nat.le_refl _⟩,⟨by (with_reducible repeat (first|apply Kd.V_alloc|apply Kd.V_drewN|apply Kd.V_drew));exact HO_7.out⟩,⟨by (with_reducible repeat (first|apply Kd.R_alloc|apply Kd.R_drewN|apply Kd.R_drew));exact HO_9.out⟩,⟨by repeat (first|(with_reducible first|exact HB.out|apply Q2|apply Q1|apply Q4)|exact HB.out)⟩⟩
    as_aux_lemma =>
    replace c48:=Bool.eq_false_iff.mpr c48;subst c48
    have H1:(if (Yj.length:Int)>0 then (Q6.j3 k2 l0 l1 l2 Yj Jj Z2 false true) else (Q6.j3 k2 l0 l1 l2 Yj Jj Z2 false false))=some r:=by rw [if_neg (show ¬ (false=true) by decide)] at H;exact H
    clear H;have H:=H1;clear H1
    by_cases c49:(Yj.length:Int)>0
    ·
     rw [if_pos c49] at H;have c49b0:decide (0<(Yj.length:Int))=true:=decide_eq_true c49;have c49b1:decide (0<Yj.length)=true:=decide_eq_true (by omega);clear c49;have H':=Q0.mk H;clear H;obtain ⟨qFv,qFO,qBS⟩:=Kd.V_slice HO_7.out;subst qBS
     go_wp2
     go_meet
     case rel=>exact ⟨_,(true),(by first|rfl|(simp;done)|(simp [*];done)),H',⟨by have:=HJ4.out;have:=HK2.out;first|omega|exact Nat.le_refl _⟩,⟨by (with_reducible repeat (first|apply Kd.V_alloc|apply Kd.V_drewN|apply Kd.V_drew));exact HO_7.out⟩,⟨by (with_reducible repeat (first|apply Kd.R_alloc|apply Kd.R_drewN|apply Kd.R_drew));exact HO_9.out⟩,⟨by repeat (first|(with_reducible first|exact HB.out|apply Q2|apply Q1|apply Q4)|exact HB.out)⟩⟩
    rw [if_neg c49] at H;have c49b0:decide (0<(Yj.length:Int))=false:=decide_eq_false c49;have c49b1:decide (0<Yj.length)=false:=decide_eq_false (by omega);clear c49;have H':=Q0.mk H;clear H;obtain ⟨qFw,qFP,qBT⟩:=Kd.V_slice HO_7.out;subst qBT
    go_wp2
    go_meet
    case rel=>exact ⟨_,(false),(by first|rfl|(simp;done)|(simp [*];done)),H',⟨by have:=HJ4.out;have:=HK2.out;first|omega|exact Nat.le_refl _⟩,⟨by (with_reducible repeat (first|apply Kd.V_alloc|apply Kd.V_drewN|apply Kd.V_drew));exact HO_7.out⟩,⟨by (with_reducible repeat (first|apply Kd.R_alloc|apply Kd.R_drewN|apply Kd.R_drew));exact HO_9.out⟩,⟨by repeat (first|(with_reducible first|exact HB.out|apply Q2|apply Q1|apply Q4)|exact HB.out)⟩⟩
   clear qql
   try clear c2
   try clear p2
   try clear c3
   try clear c4
   try clear p6
   try clear p8
   try clear q8
   try clear hx8
   try clear c22
   try clear c22b0
   try clear c38
   try clear c39
   try clear c40
   try clear c41
   try clear c41b0
   try clear c46
   try clear c46b0
   try clear c46b1
   try clear c48
   try clear c49
   try clear c49b0
   try clear c49b1
   try clear GI
   try clear GJ
   try clear qdE
   try clear qdG
   obtain ⟨kq,qcG,rfl,HA,qfK,HO_7,HO_9,HB⟩:=hcut
   cases kq with
   | zero=>exact absurd HA.out (by simp [Q6.j3])
   | succ Jh =>
    have H:=HA.out;clear HA;simp only [Q6.j3] at H
    by_cases c52:qcG=true
    ·
     subst c52
     have H1:(some false)=some r:=by rw [if_pos rfl] at H;exact H
     clear H;have H:=H1;clear H1;obtain rfl:=Option.some.inj H
     go_wp2
     go_ret
     exact ⟨by first|rfl|(simp [QC,QD]<;>rfl)|(simp [*,QC,QD]<;>rfl),by repeat (first|(with_reducible first|exact HB.out|apply Q2|apply Q1|apply Q4)|exact HB.out)⟩
    as_aux_lemma =>
    replace c52:=Bool.eq_false_iff.mpr c52;subst c52
    have H1:((some (([]:List (S25)):List (S25))).bind fun qdz=>(if qdz.length+l1.length<8796093022208 then ((some (qdz++l1:List (S25))).bind fun J6=>((YG.f l2 4).bind fun qbS=>((Yk.f qbS (l1.length:Int)).bind fun Zk=>((YG.f l2 5).bind fun Xe=>((Yk.f Xe 10).bind fun KL=>(if 0≤Zk then (if Zk<(J6.length:Int) then ((QB.f (mx 0 (wrap64 (((Qo J6 Zk).f0)-KL))) (mn 100 (wrap64 (((Qo J6 Zk).f1)+KL)))).bind fun G1=>((Qr.f Jh l0 (J6.set (Zk:Int).toNat (⟨G1.1,G1.2⟩:S25))).bind fun Yw=>(if Yw.2=0 then (Q6.j4 Jh Yj Z2 Yt Yw.1 ((Yw.1.length:Int) != (l0.length:Int))) else (if Yw.2=4 then (if Jj=0 then (Q6.j4 Jh Yj Z2 Yt Yw.1 true) else (Q6.j4 Jh Yj Z2 Yt Yw.1 false)) else (Q6.j4 Jh Yj Z2 Yt Yw.1 true))))) else (none)) else (none))))))) else (none)))=some r:=by rw [if_neg (show ¬ (false=true) by decide)] at H;exact H
    clear H;have H:=H1;clear H1;obtain ⟨qdz,qgt⟩:∃ y_:List (S25),y_=(([]:List (S25))):=⟨_,rfl⟩
    replace H:(if qdz.length+l1.length<8796093022208 then ((some (qdz++l1:List (S25))).bind fun J6=>((YG.f l2 4).bind fun qbS=>((Yk.f qbS (l1.length:Int)).bind fun Zk=>((YG.f l2 5).bind fun Xe=>((Yk.f Xe 10).bind fun KL=>(if 0≤Zk then (if Zk<(J6.length:Int) then ((QB.f (mx 0 (wrap64 (((Qo J6 Zk).f0)-KL))) (mn 100 (wrap64 (((Qo J6 Zk).f1)+KL)))).bind fun G1=>((Qr.f Jh l0 (J6.set (Zk:Int).toNat (⟨G1.1,G1.2⟩:S25))).bind fun Yw=>(if Yw.2=0 then (Q6.j4 Jh Yj Z2 Yt Yw.1 ((Yw.1.length:Int) != (l0.length:Int))) else (if Yw.2=4 then (if Jj=0 then (Q6.j4 Jh Yj Z2 Yt Yw.1 true) else (Q6.j4 Jh Yj Z2 Yt Yw.1 false)) else (Q6.j4 Jh Yj Z2 Yt Yw.1 true))))) else (none)) else (none))))))) else (none))=some r:=by first|(rw [qgt];with_reducible exact H)|(have H2_:=(Option.bind_some _ _).symm.trans H;rw [qgt];with_reducible exact H2_)|(have H2_:=(Option.bind_some _ _).symm.trans H;with_reducible exact H2_)|with_reducible exact H|(rw [qgt];exact H)|exact H
    have qpL:=Q0.mk qgt;clear qgt
    by_cases c53:qdz.length+l1.length<8796093022208
    ·
     as_aux_lemma =>
     rw [if_pos c53] at H;have qsi:=Q0.mk c53;clear c53;obtain ⟨J6,qgu⟩:∃ y_:List (S25),y_=(qdz++l1):=⟨_,rfl⟩
     replace H:((YG.f l2 4).bind fun qbS=>((Yk.f qbS (l1.length:Int)).bind fun Zk=>((YG.f l2 5).bind fun Xe=>((Yk.f Xe 10).bind fun KL=>(if 0≤Zk then (if Zk<(J6.length:Int) then ((QB.f (mx 0 (wrap64 (((Qo J6 Zk).f0)-KL))) (mn 100 (wrap64 (((Qo J6 Zk).f1)+KL)))).bind fun G1=>((Qr.f Jh l0 (J6.set (Zk:Int).toNat (⟨G1.1,G1.2⟩:S25))).bind fun Yw=>(if Yw.2=0 then (Q6.j4 Jh Yj Z2 Yt Yw.1 ((Yw.1.length:Int) != (l0.length:Int))) else (if Yw.2=4 then (if Jj=0 then (Q6.j4 Jh Yj Z2 Yt Yw.1 true) else (Q6.j4 Jh Yj Z2 Yt Yw.1 false)) else (Q6.j4 Jh Yj Z2 Yt Yw.1 true))))) else (none)) else (none))))))=some r:=by first|(rw [qgu];with_reducible exact H)|(have H2_:=(Option.bind_some _ _).symm.trans H;rw [qgu];with_reducible exact H2_)|(have H2_:=(Option.bind_some _ _).symm.trans H;with_reducible exact H2_)|with_reducible exact H|(rw [qgu];exact H)|exact H
     have qsm:=Q0.mk qgu;clear qgu;replace H:=Option.bind_eq_some_iff.mp H;obtain ⟨qbS,qrH,H⟩:=H;replace H:((Yk.f qbS (l1.length:Int)).bind fun Zk=>((YG.f l2 5).bind fun Xe=>((Yk.f Xe 10).bind fun KL=>(if 0≤Zk then (if Zk<(J6.length:Int) then ((QB.f (mx 0 (wrap64 (((Qo J6 Zk).f0)-KL))) (mn 100 (wrap64 (((Qo J6 Zk).f1)+KL)))).bind fun G1=>((Qr.f Jh l0 (J6.set (Zk:Int).toNat (⟨G1.1,G1.2⟩:S25))).bind fun Yw=>(if Yw.2=0 then (Q6.j4 Jh Yj Z2 Yt Yw.1 ((Yw.1.length:Int) != (l0.length:Int))) else (if Yw.2=4 then (if Jj=0 then (Q6.j4 Jh Yj Z2 Yt Yw.1 true) else (Q6.j4 Jh Yj Z2 Yt Yw.1 false)) else (Q6.j4 Jh Yj Z2 Yt Yw.1 true))))) else (none)) else (none)))))=some r:=H;have A54:=Q0.mk qrH;clear qrH;replace H:=Option.bind_eq_some_iff.mp H;obtain ⟨Zk,qkU,H⟩:=H;replace H:((YG.f l2 5).bind fun Xe=>((Yk.f Xe 10).bind fun KL=>(if 0≤Zk then (if Zk<(J6.length:Int) then ((QB.f (mx 0 (wrap64 (((Qo J6 Zk).f0)-KL))) (mn 100 (wrap64 (((Qo J6 Zk).f1)+KL)))).bind fun G1=>((Qr.f Jh l0 (J6.set (Zk:Int).toNat (⟨G1.1,G1.2⟩:S25))).bind fun Yw=>(if Yw.2=0 then (Q6.j4 Jh Yj Z2 Yt Yw.1 ((Yw.1.length:Int) != (l0.length:Int))) else (if Yw.2=4 then (if Jj=0 then (Q6.j4 Jh Yj Z2 Yt Yw.1 true) else (Q6.j4 Jh Yj Z2 Yt Yw.1 false)) else (Q6.j4 Jh Yj Z2 Yt Yw.1 true))))) else (none)) else (none))))=some r:=H;have A55:=Q0.mk qkU;clear qkU;replace H:=Option.bind_eq_some_iff.mp H;obtain ⟨Xe,qrI,H⟩:=H;replace H:((Yk.f Xe 10).bind fun KL=>(if 0≤Zk then (if Zk<(J6.length:Int) then ((QB.f (mx 0 (wrap64 (((Qo J6 Zk).f0)-KL))) (mn 100 (wrap64 (((Qo J6 Zk).f1)+KL)))).bind fun G1=>((Qr.f Jh l0 (J6.set (Zk:Int).toNat (⟨G1.1,G1.2⟩:S25))).bind fun Yw=>(if Yw.2=0 then (Q6.j4 Jh Yj Z2 Yt Yw.1 ((Yw.1.length:Int) != (l0.length:Int))) else (if Yw.2=4 then (if Jj=0 then (Q6.j4 Jh Yj Z2 Yt Yw.1 true) else (Q6.j4 Jh Yj Z2 Yt Yw.1 false)) else (Q6.j4 Jh Yj Z2 Yt Yw.1 true))))) else (none)) else (none)))=some r:=H;have A56:=Q0.mk qrI;clear qrI;replace H:=Option.bind_eq_some_iff.mp H;obtain ⟨KL,qrJ,H⟩:=H;replace H:(if 0≤Zk then (if Zk<(J6.length:Int) then ((QB.f (mx 0 (wrap64 (((Qo J6 Zk).f0)-KL))) (mn 100 (wrap64 (((Qo J6 Zk).f1)+KL)))).bind fun G1=>((Qr.f Jh l0 (J6.set (Zk:Int).toNat (⟨G1.1,G1.2⟩:S25))).bind fun Yw=>(if Yw.2=0 then (Q6.j4 Jh Yj Z2 Yt Yw.1 ((Yw.1.length:Int) != (l0.length:Int))) else (if Yw.2=4 then (if Jj=0 then (Q6.j4 Jh Yj Z2 Yt Yw.1 true) else (Q6.j4 Jh Yj Z2 Yt Yw.1 false)) else (Q6.j4 Jh Yj Z2 Yt Yw.1 true))))) else (none)) else (none))=some r:=H;have A57:=Q0.mk qrJ;clear qrJ
     by_cases c58:0≤Zk
     ·
      as_aux_lemma =>
      rw [if_pos c58] at H;have c58b0:decide (0≤Zk)=true:=decide_eq_true c58;clear c58
      by_cases c59:Zk<(J6.length:Int)
      ·
       as_aux_lemma =>
       rw [if_pos c59] at H;have c59b0:decide (Zk<(J6.length:Int))=true:=decide_eq_true c59;clear c59;obtain ⟨qhA,OE⟩:∃ j_:Int,(mx 0 (wrap64 (((Qo J6 Zk).f0)-KL)))=j_:=⟨_,rfl⟩
       replace H:((QB.f (qhA) (mn 100 (wrap64 (((Qo J6 Zk).f1)+KL)))).bind fun G1=>((Qr.f Jh l0 (J6.set (Zk:Int).toNat (⟨G1.1,G1.2⟩:S25))).bind fun Yw=>(if Yw.2=0 then (Q6.j4 Jh Yj Z2 Yt Yw.1 ((Yw.1.length:Int) != (l0.length:Int))) else (if Yw.2=4 then (if Jj=0 then (Q6.j4 Jh Yj Z2 Yt Yw.1 true) else (Q6.j4 Jh Yj Z2 Yt Yw.1 false)) else (Q6.j4 Jh Yj Z2 Yt Yw.1 true)))))=some r:=by first|(rw [OE] at H;exact H)|(simp only [OE] at H ⊢;exact H)
       (try rw [OE] at A54)
       (try rw [OE] at A55)
       (try rw [OE] at A56)
       (try rw [OE] at A57)
       (try (have hji60l:0≤qhA:=by (rw [← OE];unfold mx;(repeat' split)<;>omega)))
       (try (have hji60m:0≤qhA:=by omega))
       have hji60_:(if 0<(wrap64 (((Qo J6 Zk).f0)-KL)) then (wrap64 (((Qo J6 Zk).f0)-KL)) else 0)=qhA:=OE;obtain ⟨qkg,OG⟩:∃ j_:Int,(mn 100 (wrap64 (((Qo J6 Zk).f1)+KL)))=j_:=⟨_,rfl⟩
       replace H:((QB.f (qhA) (qkg)).bind fun G1=>((Qr.f Jh l0 (J6.set (Zk:Int).toNat (⟨G1.1,G1.2⟩:S25))).bind fun Yw=>(if Yw.2=0 then (Q6.j4 Jh Yj Z2 Yt Yw.1 ((Yw.1.length:Int) != (l0.length:Int))) else (if Yw.2=4 then (if Jj=0 then (Q6.j4 Jh Yj Z2 Yt Yw.1 true) else (Q6.j4 Jh Yj Z2 Yt Yw.1 false)) else (Q6.j4 Jh Yj Z2 Yt Yw.1 true)))))=some r:=by first|(rw [OG] at H;exact H)|(simp only [OG] at H ⊢;exact H)
       (try rw [OG] at A54)
       (try rw [OG] at A55)
       (try rw [OG] at A56)
       (try rw [OG] at A57)
       (try (have hji61h:qkg≤100:=by (rw [← OG];unfold mn;(repeat' split)<;>omega)))
       (try (have hji61g:qkg≤64:=by omega))
       have hji61_:(if (wrap64 (((Qo J6 Zk).f1)+KL))<100 then (wrap64 (((Qo J6 Zk).f1)+KL)) else 100)=qkg:=OG;replace H:=Option.bind_eq_some_iff.mp H;obtain ⟨⟨qfn,qfo⟩,qrK,H⟩:=H;replace H:((Qr.f Jh l0 (J6.set (Zk:Int).toNat (⟨qfn,qfo⟩:S25))).bind fun Yw=>(if Yw.2=0 then (Q6.j4 Jh Yj Z2 Yt Yw.1 ((Yw.1.length:Int) != (l0.length:Int))) else (if Yw.2=4 then (if Jj=0 then (Q6.j4 Jh Yj Z2 Yt Yw.1 true) else (Q6.j4 Jh Yj Z2 Yt Yw.1 false)) else (Q6.j4 Jh Yj Z2 Yt Yw.1 true))))=some r:=H;have A62:=Q0.mk qrK;clear qrK;obtain ⟨qmP,qgv⟩:∃ y_:List (S25),y_=(J6.set (Zk:Int).toNat (⟨qfn,qfo⟩:S25)):=⟨_,rfl⟩
       replace H:((Qr.f Jh l0 qmP).bind fun Yw=>(if Yw.2=0 then (Q6.j4 Jh Yj Z2 Yt Yw.1 ((Yw.1.length:Int) != (l0.length:Int))) else (if Yw.2=4 then (if Jj=0 then (Q6.j4 Jh Yj Z2 Yt Yw.1 true) else (Q6.j4 Jh Yj Z2 Yt Yw.1 false)) else (Q6.j4 Jh Yj Z2 Yt Yw.1 true))))=some r:=by first|(rw [qgv];with_reducible exact H)|(have H2_:=(Option.bind_some _ _).symm.trans H;rw [qgv];with_reducible exact H2_)|(have H2_:=(Option.bind_some _ _).symm.trans H;with_reducible exact H2_)|with_reducible exact H|(rw [qgv];exact H)|exact H
       have qsn:=Q0.mk qgv;clear qgv;replace H:=Option.bind_eq_some_iff.mp H;obtain ⟨⟨ZM,qbq⟩,qrL,H⟩:=H;replace H:(if qbq=0 then (Q6.j4 Jh Yj Z2 Yt ZM ((ZM.length:Int) != (l0.length:Int))) else (if qbq=4 then (if Jj=0 then (Q6.j4 Jh Yj Z2 Yt ZM true) else (Q6.j4 Jh Yj Z2 Yt ZM false)) else (Q6.j4 Jh Yj Z2 Yt ZM true)))=some r:=H;have A64:=Q0.mk qrL;clear qrL;have qqm:=Q0.mk H;clear H
       try go_wp2_with (first|((with_reducible refine Y0 (N:=142) rfl ?_);(try (refine G4 (by rfl) ?_;dsimp only));refine Kd.R_lit k25 _ 25 ?hg (N:=142) ?hd (xs:=([]:List (S25))) (inner:=[]) (ok:=fun _=>True) (okp:=fun _=>True) ?hr ?hp (fun _ hk=>hk) trivial (Below.refl _ _) (Nat.le_refl _) (by simp) ?_;(case hd=>rfl);(case hg=>rfl);(case hr=>first|(go_simp;done)|(go_simp;rfl));(case hp=>exact (Reps.none _ _));intro qCI w66 qke hb hg_ hnew_;clear hg_ hnew_;(first|rw [← qpL.out] at qke|(simp only [Int.reduceToNat] at qke;rw [← qpL.out] at qke));have n0_:=Q0.mk (Kd.V_elder' (by (with_reducible repeat (first|apply Kd.V_alloc|apply Kd.V_drewN|apply Kd.V_drew));exact HO_7.out) (Kd.R_base qke) hb);have n1_:=Q0.mk (Kd.R_below (by (with_reducible repeat (first|apply Kd.R_alloc|apply Kd.R_drewN|apply Kd.R_drew));exact HO_9.out) hb);have n2_:=Q0.mk (Kd.R_lower qke (Qn (by repeat (first|(with_reducible first|exact HB.out|apply Q2|apply Q1|apply Q4)|exact HB.out))));have n3_:=Q0.mk (Qv (by repeat (first|(with_reducible first|exact HB.out|apply Q2|apply Q1|apply Q4)|exact HB.out)) hb);clear HO_7 HO_9 HB;have HO_7:=n0_;have HO_9:=n1_;have qk5:=n2_;have HB:=n3_;clear n0_ n1_ n2_ n3_ hb qke)|((with_reducible refine Wl (b:=.append) (xs:=#[.tmp 142,.tmp 143]) rfl ?_);(try (refine G4 (by rfl) ?_;dsimp only));at_builtin;refine Kd.R_append_rows k25 (w0:=w) w.heap.size rfl (.tmp 142) (.tmp 143) 32 25 (.agg #[(.int .i64 0),(.int .i64 0)]) 16 rfl Try.underlying32 qhy rfl (by decide) (by omega) qCI qdz l1 _ _ _ (fun _=>True) (fun _=>False) rfl rfl ?aO ?aR (fun _ _ h=>h) (fun _ h=>h.elim) ?aF ?aB ?aS ?aL ?_;(case aR=>repeat (first|exact (Kd.C_below HR1.out HB.out)|(with_reducible refine Kd.C_alloc ?_ _)|(with_reducible refine Kd.C_drewN ?_ _)|(with_reducible refine Kd.C_drew ?_)));(case aB=>exact (by repeat (first|(with_reducible first|exact HB.out|apply Q2|apply Q1|apply Q4)|exact HB.out)));(case aF=>exact (fun _ _=>trivial));(case aO=>exact (by (with_reducible repeat (first|apply Kd.R_alloc|apply Kd.R_drewN|apply Kd.R_drew));exact qk5.out));(case aS=>exact (Qn (by repeat (first|(with_reducible first|exact HB.out|apply Q2|apply Q1|apply Q4)|exact HB.out))));(case aL=>have:=qsi.out;omega);intro qg3 w68 ho hb hg hat;rw [← qsm.out] at ho;have n0_:=Q0.mk (Kd.V_afterv (ok:=(fun k_=>some k_≠(U6:Value).ownBlock)) (by (with_reducible repeat (first|apply Kd.V_alloc|apply Kd.V_drewN|apply Kd.V_drew));exact HO_7.out) hg hat);have n1_:=Q0.mk (Kd.R_over' (by (with_reducible repeat (first|apply Kd.R_alloc|apply Kd.R_drewN|apply Kd.R_drew));exact HO_9.out) (Kd.R_typed (by (with_reducible repeat (first|apply Kd.R_alloc|apply Kd.R_drewN|apply Kd.R_drew));exact qk5.out)) (by decide) hg);have n2_:=Q0.mk (hb);have n3_:=Q0.mk (ho);clear HO_7 HO_9 HB qk5;have HO_7:=n0_;have HO_9:=n1_;have HB:=n2_;have JD:=n3_;clear n0_ n1_ n2_ n3_ ho hb hg hat)|((with_reducible refine QF (f:=42) rfl ?_);refine YE (some 146) rfl rfl Try.func42 (by kernel_rfl) rfl #[.slice A2 l2.length c2,.int .i64 4] rfl (by (try simp only [List.map_toArray,List.map_cons,List.map_nil]);first|done|rfl|(simp only [List.length_drop,List.length_take];rfl)) ?_;(with_reducible refine (YG.calls _ _ l2 4 qbS _ ?side1 ?side2 A54.out).mono ?_);(case side1=>repeat (first|exact (Kd.C_below HR2.out HB.out)|(with_reducible refine Kd.C_alloc ?_ _)|(with_reducible refine Kd.C_drewN ?_ _)|(with_reducible refine Kd.C_drew ?_)));(case side2=>exact HC2.out);rintro e w' ⟨rfl,⟨nd,rfl⟩⟩;refine ⟨_,rfl,?_⟩;(try (rw [OY w68];generalize hq_:World.drewN w68 _=w68;have n0_:Q0 (Kd.R k25 25 w68 w.heap.size (fun _=>True) qg3 J6):=⟨by rw [← hq_];exact (by (with_reducible repeat (first|apply Kd.R_alloc|apply Kd.R_drewN|apply Kd.R_drew));exact JD.out)⟩;have n1_:Q0 (Kd.V k25 25 w68 w.heap.size (fun k_=>some k_≠(qg3:Value).ownBlock∧some k_≠(U6:Value).ownBlock) qdQ Yj):=⟨by rw [← hq_];exact (by (with_reducible repeat (first|apply Kd.V_alloc|apply Kd.V_drewN|apply Kd.V_drew));exact Kd.V_mono HO_7.out (fun _ hk=>⟨hk.2,hk.1⟩))⟩;have n2_:Q0 (Kd.R (Kd.int .i64) 3 w68 w.heap.size (fun _=>True) U6 Z2):=⟨by rw [← hq_];exact (by (with_reducible repeat (first|apply Kd.R_alloc|apply Kd.R_drewN|apply Kd.R_drew));exact HO_9.out)⟩;have n3_:Q0 (Below w.heap.size w w68):=⟨by rw [← hq_];exact (by repeat (first|(with_reducible first|exact HB.out|apply Q2|apply Q1|apply Q4)|exact HB.out))⟩;clear JD HO_7 HO_9 HB hq_;have JD:=n0_;have HO_7:=n1_;have HO_9:=n2_;have HB:=n3_;clear n0_ n1_ n2_ n3_)))|((with_reducible refine QF (f:=36) rfl ?_);refine YE (some 149) rfl rfl Try.func36 (by kernel_rfl) rfl #[.int .i64 qbS,.int .i64 (l1.length:Int)] rfl (by (try simp only [List.map_toArray,List.map_cons,List.map_nil]);first|done|rfl|(simp only [List.length_drop,List.length_take];rfl)) ?_;(with_reducible refine (Yk.calls qbS (l1.length:Int) Zk _ A55.out).mono ?_);rintro e w' ⟨rfl,⟨nd,rfl⟩⟩;refine ⟨_,rfl,?_⟩;(try (rw [OY w68];generalize hq_:World.drewN w68 _=w68;have n0_:Q0 (Kd.R k25 25 w68 w.heap.size (fun _=>True) qg3 J6):=⟨by rw [← hq_];exact (by (with_reducible repeat (first|apply Kd.R_alloc|apply Kd.R_drewN|apply Kd.R_drew));exact JD.out)⟩;have n1_:Q0 (Kd.V k25 25 w68 w.heap.size (fun k_=>some k_≠(qg3:Value).ownBlock∧some k_≠(U6:Value).ownBlock) qdQ Yj):=⟨by rw [← hq_];exact (by (with_reducible repeat (first|apply Kd.V_alloc|apply Kd.V_drewN|apply Kd.V_drew));exact Kd.V_mono HO_7.out (fun _ hk=>⟨hk.2,hk.1⟩))⟩;have n2_:Q0 (Kd.R (Kd.int .i64) 3 w68 w.heap.size (fun _=>True) U6 Z2):=⟨by rw [← hq_];exact (by (with_reducible repeat (first|apply Kd.R_alloc|apply Kd.R_drewN|apply Kd.R_drew));exact HO_9.out)⟩;have n3_:Q0 (Below w.heap.size w w68):=⟨by rw [← hq_];exact (by repeat (first|(with_reducible first|exact HB.out|apply Q2|apply Q1|apply Q4)|exact HB.out))⟩;clear JD HO_7 HO_9 HB hq_;have JD:=n0_;have HO_7:=n1_;have HO_9:=n2_;have HB:=n3_;clear n0_ n1_ n2_ n3_)))|((with_reducible refine QF (f:=42) rfl ?_);refine YE (some 151) rfl rfl Try.func42 (by kernel_rfl) rfl #[.slice A2 l2.length c2,.int .i64 5] rfl (by (try simp only [List.map_toArray,List.map_cons,List.map_nil]);first|done|rfl|(simp only [List.length_drop,List.length_take];rfl)) ?_;(with_reducible refine (YG.calls _ _ l2 5 Xe _ ?side1 ?side2 A56.out).mono ?_);(case side1=>repeat (first|exact (Kd.C_below HR2.out HB.out)|(with_reducible refine Kd.C_alloc ?_ _)|(with_reducible refine Kd.C_drewN ?_ _)|(with_reducible refine Kd.C_drew ?_)));(case side2=>exact HC2.out);rintro e w' ⟨rfl,⟨nd,rfl⟩⟩;refine ⟨_,rfl,?_⟩;(try (rw [OY w68];generalize hq_:World.drewN w68 _=w68;have n0_:Q0 (Kd.R k25 25 w68 w.heap.size (fun _=>True) qg3 J6):=⟨by rw [← hq_];exact (by (with_reducible repeat (first|apply Kd.R_alloc|apply Kd.R_drewN|apply Kd.R_drew));exact JD.out)⟩;have n1_:Q0 (Kd.V k25 25 w68 w.heap.size (fun k_=>some k_≠(qg3:Value).ownBlock∧some k_≠(U6:Value).ownBlock) qdQ Yj):=⟨by rw [← hq_];exact (by (with_reducible repeat (first|apply Kd.V_alloc|apply Kd.V_drewN|apply Kd.V_drew));exact Kd.V_mono HO_7.out (fun _ hk=>⟨hk.2,hk.1⟩))⟩;have n2_:Q0 (Kd.R (Kd.int .i64) 3 w68 w.heap.size (fun _=>True) U6 Z2):=⟨by rw [← hq_];exact (by (with_reducible repeat (first|apply Kd.R_alloc|apply Kd.R_drewN|apply Kd.R_drew));exact HO_9.out)⟩;have n3_:Q0 (Below w.heap.size w w68):=⟨by rw [← hq_];exact (by repeat (first|(with_reducible first|exact HB.out|apply Q2|apply Q1|apply Q4)|exact HB.out))⟩;clear JD HO_7 HO_9 HB hq_;have JD:=n0_;have HO_7:=n1_;have HO_9:=n2_;have HB:=n3_;clear n0_ n1_ n2_ n3_)))|((with_reducible refine QF (f:=36) rfl ?_);refine YE (some 152) rfl rfl Try.func36 (by kernel_rfl) rfl #[.int .i64 Xe,.int .i64 10] rfl (by (try simp only [List.map_toArray,List.map_cons,List.map_nil]);first|done|rfl|(simp only [List.length_drop,List.length_take];rfl)) ?_;(with_reducible refine (Yk.calls Xe 10 KL _ A57.out).mono ?_);rintro e w' ⟨rfl,⟨nd,rfl⟩⟩;refine ⟨_,rfl,?_⟩;(try (rw [OY w68];generalize hq_:World.drewN w68 _=w68;have n0_:Q0 (Kd.R k25 25 w68 w.heap.size (fun _=>True) qg3 J6):=⟨by rw [← hq_];exact (by (with_reducible repeat (first|apply Kd.R_alloc|apply Kd.R_drewN|apply Kd.R_drew));exact JD.out)⟩;have n1_:Q0 (Kd.V k25 25 w68 w.heap.size (fun k_=>some k_≠(qg3:Value).ownBlock∧some k_≠(U6:Value).ownBlock) qdQ Yj):=⟨by rw [← hq_];exact (by (with_reducible repeat (first|apply Kd.V_alloc|apply Kd.V_drewN|apply Kd.V_drew));exact Kd.V_mono HO_7.out (fun _ hk=>⟨hk.2,hk.1⟩))⟩;have n2_:Q0 (Kd.R (Kd.int .i64) 3 w68 w.heap.size (fun _=>True) U6 Z2):=⟨by rw [← hq_];exact (by (with_reducible repeat (first|apply Kd.R_alloc|apply Kd.R_drewN|apply Kd.R_drew));exact HO_9.out)⟩;have n3_:Q0 (Below w.heap.size w w68):=⟨by rw [← hq_];exact (by repeat (first|(with_reducible first|exact HB.out|apply Q2|apply Q1|apply Q4)|exact HB.out))⟩;clear JD HO_7 HO_9 HB hq_;have JD:=n0_;have HO_7:=n1_;have HO_9:=n2_;have HB:=n3_;clear n0_ n1_ n2_ n3_))))
       generalize hq_:World.drewN w68 _=w68q
       obtain ⟨nq_,hq2_⟩:∃ n,World.drewN w68 n=w68q:=⟨_,hq_⟩;clear hq_;replace HO_7:=Q0.mk (Kd.V_drewN HO_7.out nq_);replace HO_9:=Q0.mk (Kd.R_drewN HO_9.out nq_);replace JD:=Q0.mk (Kd.R_drewN JD.out nq_);replace HB:=Q0.mk (Q1 HB.out nq_);rw [hq2_] at HO_7 HO_9 JD HB;clear hq2_
       revert w68q
       intro w68 HO_7 HO_9 JD HB;have n0_:=Q0.mk (Kd.V_drew HO_7.out);have n1_:=Q0.mk (Kd.R_drew HO_9.out);have n2_:=Q0.mk (Kd.R_drew JD.out);have n3_:=Q0.mk (Q4 HB.out);clear HO_7 HO_9 JD HB;have HO_7:=n0_;have HO_9:=n1_;have JD:=n2_;have HB:=n3_;clear n0_ n1_ n2_ n3_;obtain ⟨qFx,qqt,qsY⟩:=Kd.R_slice JD.out
       (first|subst qsY|(injection qsY with f1_ f2_ f3_;have f4_:=f1_.symm;have f5_:=f3_.symm;clear f1_ f2_ f3_;subst f4_;subst f5_))
       have qmk:0≤(Zk:Int):=of_decide_eq_true (by first|(with_reducible assumption)|assumption);have qmr:Zk<(J6.length:Int):=of_decide_eq_true (by first|(with_reducible assumption)|assumption);obtain ⟨qcU,qBB,qaM,qaN⟩:=ZD (Kd.R_reads' JD.out).2.2 Zk qmk qmr;cases qBB;replace qmk:=eq_true qmk;replace qmr:=eq_true qmr;have qml:0≤(Zk:Int):=of_decide_eq_true (by first|(with_reducible assumption)|assumption);have qms:Zk<(J6.length:Int):=of_decide_eq_true (by first|(with_reducible assumption)|assumption);obtain ⟨qsF,qBC,qaO,qaP⟩:=ZD (Kd.R_reads' JD.out).2.2 Zk qml qms;obtain rfl:qcU=qsF:=(by injection qBC);replace qml:=eq_true qml;replace qms:=eq_true qms;refine GU (n:=21) (S:=fun w'=>w'.cell? (qcU.add ((Zk).toNat*2))=some (.int .i64 ((Qo J6 Zk).f0))∧w'.cell? ⟨(qcU.add ((Zk).toNat*2)).block,(qcU.add ((Zk).toNat*2)).off+1,none⟩=some (.int .i64 ((Qo J6 Zk).f1))∧w'.cell? (qcU.add ((Zk).toNat*2))=some (.int .i64 ((Qo J6 Zk).f0))∧w'.cell? ⟨(qcU.add ((Zk).toNat*2)).block,(qcU.add ((Zk).toNat*2)).off+1,none⟩=some (.int .i64 ((Qo J6 Zk).f1))) (ds:=[20]) (Qg 21 0) (by kernel_rfl) rfl rfl ⟨qaM,qaN,qaO,qaP⟩ (fun hHeld => ?_);refine Jn Q6.tab19 Q6.bits19 (fun HT_ HW_ => ?_)
       generalize w68.drew=w69 at HO_7 HO_9 JD HB qaM qaN qaO qaP hHeld ⊢
       refine Qh 0 (some 153) (Qg 21 1) rfl rfl HT_.out (by kernel_rfl) (fun _ _ _ h=>h) ⟨.inl ⟨by rfl,fun w'=>by go_simp;with_reducible rfl⟩,by simp only [Qf,Qb,Qe,Qd,Qc,Qk,Qm];rfl,?_⟩;refine Qh 1 (some 154) (Qg 21 3) rfl rfl HT_.out (by kernel_rfl) (fun _ _ _ h=>h) ⟨.inl ⟨by rfl,fun w'=>by go_simp;with_reducible rfl⟩,by simp only [Qf,Qb,Qe,Qd,Qc,Qk,Qm];rfl,?_⟩;refine Qh 2 (some 155) (Qg 21 7) rfl rfl HT_.out (by kernel_rfl) (fun _ _ _ h=>h) ⟨.inl ⟨by rfl,fun w'=>by go_simp;with_reducible rfl⟩,by simp only [Qf,Qb,Qe,Qd,Qc,Qk,Qm];rfl,?_⟩;refine Qh 3 (some 156) (Qg 21 15) rfl rfl HT_.out (by kernel_rfl) (fun _ _ _ h=>h) ⟨.inl ⟨by rfl,fun w'=>by go_simp;with_reducible rfl⟩,by simp only [Qf,Qb,Qe,Qd,Qc,Qk,Qm];rfl,?_⟩;refine Qh 4 (some 157) (Qg 21 31) rfl rfl HT_.out (by kernel_rfl) (fun _ _ _ h=>h) ⟨.inl ⟨by rfl,fun w'=>by go_simp;with_reducible rfl⟩,by simp only [Qf,Qb,Qe,Qd,Qc,Qk,Qm];rfl,?_⟩;refine Qh 5 (some 158) (Qg 21 63) rfl rfl HT_.out (by kernel_rfl) (fun _ _ _ h=>h) ⟨.inl ⟨by rfl,fun w'=>by go_simp;with_reducible rfl⟩,by simp only [Qf,Qb,Qe,Qd,Qc,Qk,Qm];rfl,?_⟩;refine Qh 7 (some 160) (Qg 21 191) rfl rfl HT_.out (by kernel_rfl) (fun _ _ _ h=>h) ⟨.inl ⟨by rfl,fun w'=>by go_simp;with_reducible rfl⟩,by simp only [Qf,Qb,Qe,Qd,Qc,Qk,Qm];rfl,?_⟩;refine Qh 10 (some 163) (Qg 21 1215) rfl rfl HT_.out (by kernel_rfl) (fun _ _ _ h=>h) ⟨.inl ⟨by rfl,fun w'=>by go_simp;with_reducible rfl⟩,by simp only [Qf,Qb,Qe,Qd,Qc,Qk,Qm];rfl,?_⟩;refine Qh 11 (some 164) (Qg 21 3263) rfl rfl HT_.out (by kernel_rfl) (fun _ _ _ h=>h) ⟨.inl ⟨by rfl,fun w'=>by go_simp;with_reducible rfl⟩,by simp only [Qf,Qb,Qe,Qd,Qc,Qk,Qm];rfl,?_⟩;refine Qh 12 (some 165) (Qg 21 7359) rfl rfl HT_.out (by kernel_rfl) (fun _ _ _ h=>h) ⟨.inl ⟨by rfl,fun w'=>by go_simp;with_reducible rfl⟩,by simp only [Qf,Qb,Qe,Qd,Qc,Qk,Qm];rfl,?_⟩;refine Qh 13 (some 166) (Qg 21 15551) rfl rfl HT_.out (by kernel_rfl) (fun _ _ _ h=>h) ⟨.inl ⟨by rfl,fun w'=>by go_simp;with_reducible rfl⟩,by simp only [Qf,Qb,Qe,Qd,Qc,Qk,Qm];rfl,?_⟩;refine Qh 15 (some 168) (Qg 21 48319) rfl rfl HT_.out (by kernel_rfl) (fun _ _ _ h=>h) ⟨.inl ⟨by rfl,fun w'=>by go_simp;with_reducible rfl⟩,by simp only [Qf,Qb,Qe,Qd,Qc,Qk,Qm];rfl,?_⟩;refine Yn 6 (some 159) (Qg 21 48383) rfl rfl (Yo HT_.out HW_.out (by kernel_rfl)) (fun _ _ _ h=>h) hHeld ⟨.inl ⟨by rfl,by rintro w' ⟨s0,s1,s2,s3⟩;go_simp;with_reducible rfl⟩,by simp only [Qf,Qb,Qe,Qd,Qc,Qk,Qm];rfl,?_⟩;refine Qh 8 (some 161) (Qg 21 48639) rfl rfl HT_.out (by kernel_rfl) (fun _ _ _ h=>h) ⟨.inl ⟨by rfl,fun w'=>by go_simp;with_reducible rfl⟩,by simp only [Qf,Qb,Qe,Qd,Qc,Qk,Qm];rfl,?_⟩;refine Qh 9 (some 162) (Qg 21 49151) rfl rfl HT_.out (by kernel_rfl) (fun _ _ _ h=>h) ⟨.inl ⟨by rfl,fun w'=>by go_simp;with_reducible rfl⟩,by simp only [Qf,Qb,Qe,Qd,Qc,Qk,Qm];rfl,?_⟩;refine Yn 14 (some 167) (Qg 21 65535) rfl rfl (Yo HT_.out HW_.out (by kernel_rfl)) (fun _ _ _ h=>h) hHeld ⟨.inl ⟨by rfl,by rintro w' ⟨s0,s1,s2,s3⟩;go_simp;with_reducible rfl⟩,by simp only [Qf,Qb,Qe,Qd,Qc,Qk,Qm];rfl,?_⟩;refine Qh 16 (some 169) (Qg 21 131071) rfl rfl HT_.out (by kernel_rfl) (fun _ _ _ h=>h) ⟨.inl ⟨by rfl,fun w'=>by go_simp;with_reducible rfl⟩,by simp only [Qf,Qb,Qe,Qd,Qc,Qk,Qm];rfl,?_⟩;refine Qh 17 (some 170) (Qg 21 262143) rfl rfl HT_.out (by kernel_rfl) (fun _ _ _ h=>h) ⟨.inl ⟨by rfl,fun w'=>by go_simp;with_reducible rfl⟩,by simp only [Qf,Qb,Qe,Qd,Qc,Qk,Qm];rfl,?_⟩;refine one_ (i:=18) (N:=some 171) (Qg 21 524287) rfl rfl (Gf HT_.out (by kernel_rfl)) (by decide) (fun K hK => ?_);refine Wg Try.func43 (by kernel_rfl) rfl #[.int .i64 qhA,.int .i64 qkg] (by rfl) rfl rfl (by (try simp only [List.map_toArray,List.map_cons,List.map_nil]);first|done|(simp only [OE,OG];rfl)|rfl|(simp only [List.length_drop,List.length_take];rfl)) ?_
       with_reducible refine (QB.calls qhA qkg qfn qfo _ A62.out).mono ?_
       rintro e w71 ⟨rfl,hb⟩;have HS0_:=(hb.cell (World.block_lt_of_cell? _ _ (hHeld.1))).trans (hHeld.1);have HS1_:=(hb.cell (World.block_lt_of_cell? _ _ (hHeld.2.1))).trans (hHeld.2.1);have HS2_:=(hb.cell (World.block_lt_of_cell? _ _ (hHeld.2.2.1))).trans (hHeld.2.2.1);have HS3_:=(hb.cell (World.block_lt_of_cell? _ _ (hHeld.2.2.2))).trans (hHeld.2.2.2);refine ⟨_,rfl,?_⟩;have n0_:=Q0.mk (Kd.V_below (by (with_reducible repeat (first|apply Kd.V_alloc|apply Kd.V_drewN|apply Kd.V_drew));exact HO_7.out) hb);have n1_:=Q0.mk (Kd.R_below (by (with_reducible repeat (first|apply Kd.R_alloc|apply Kd.R_drewN|apply Kd.R_drew));exact HO_9.out) hb);have n2_:=Q0.mk (Kd.R_below (by (with_reducible repeat (first|apply Kd.R_alloc|apply Kd.R_drewN|apply Kd.R_drew));exact JD.out) hb);have n3_:=Q0.mk (Qv (by repeat (first|(with_reducible first|exact HB.out|apply Q2|apply Q1|apply Q4)|exact HB.out)) hb);clear HO_7 HO_9 JD HB;have HO_7:=n0_;have HO_9:=n1_;have JD:=n2_;have HB:=n3_;clear n0_ n1_ n2_ n3_
       (try clear hb)
       (try clear hb2)
       (try clear hk)
       (try clear hi)
       have p63:0≤(Zk:Int):=of_decide_eq_true (by first|(with_reducible assumption)|assumption);have q63:(Zk:Int)<((J6.length:Int):Int):=of_decide_eq_true (by first|(with_reducible assumption)|assumption);obtain ⟨qbh,qFQ,qsX,qs8,qBZ,qFJ,qr5⟩:=Kd.R_form JD.out (by omega)
       (first|cases qsX|(injection qsX with ea_ en_ ec_;(first|subst ea_|(injection ea_ with ea_;subst ea_));subst ec_;clear en_))
       have qjY:=Q0.mk qs8;have qr0:=Q0.mk qr5;clear qs8 qBZ qr5
       (first|simp only [K1] at qaM|skip)
       (first|simp only [K1] at qaN|skip)
       (first|simp only [K1] at qaO|skip)
       (first|simp only [K1] at qaP|skip)
       obtain ⟨qFH,qtu,qtn,qlU,qlW⟩:=Kd.R_elem JD.out z25 (Zk:Int) p63 q63;obtain rfl:=qbk qtn;have ql7:World.cell? _ ⟨qbh,(Zk:Int).toNat*2,none⟩=some (.int .i64 ((Qo J6 Zk).f0)):=qlU 0 _ rfl;have ql8:World.cell? _ ⟨qbh,(Zk:Int).toNat*2+1,none⟩=some (.int .i64 ((Qo J6 Zk).f1)):=qlU 1 _ rfl;have qCb:World.frozen? _ ⟨qbh,(Zk:Int).toNat*2,none⟩=false:=qlW 0;have qCc:World.frozen? _ ⟨qbh,(Zk:Int).toNat*2+1,none⟩=false:=qlW 1;clear qtu qlU qlW qtn;replace p63:=eq_true p63;replace q63:=eq_true q63;obtain ⟨qFI,qpX,qto,qpW,qtZ⟩:=Kd.R_elem JD.out z25 (Zk:Int) (of_decide_eq_true (by first|(with_reducible assumption)|assumption)) (by have h_:(Zk:Int)<((J6.length:Int):Int):=of_decide_eq_true (by first|(with_reducible assumption)|assumption);first|exact h_|(have e_:=(Kd.R_reads' JD.out).1;omega)|simpa using h_);obtain rfl:=qbk qto;have qqn:=(Kd.R_seg JD.out (Zk:Int) (of_decide_eq_true (by first|(with_reducible assumption)|assumption)) (by have h_:(Zk:Int)<((J6.length:Int):Int):=of_decide_eq_true (by first|(with_reducible assumption)|assumption);first|exact h_|(have e_:=(Kd.R_reads' JD.out).1;omega)|simpa using h_) (seg:=[.int .i64 qfn,.int .i64 qfo]) (j:=0) qpX qpW (show 2≤2 from by decide) (x':=(⟨qfn,qfo⟩:S25)) (Om _ _ _ (⟨qfn,qfo⟩:S25) ) (fun _ hk=>hk)).1;rw [← qsn.out] at qqn;have qk7:=Q0.mk qqn;clear qpX qpW qtZ qto qqn;refine hK.out _ _ ⟨HS0_,HS1_,HS2_,HS3_⟩ (fun hHeld => ?_);clear hK K;refine G9 (a':=?_) ?_ ?_;rotate_left
       ·
        show Act.put _ (some 171) _=_
        simp only [Qf,Qb,Qe,Qd,Qc,Qk,Qm];rfl
       refine Qh 19 (some 172) (Qg 21 1048575) rfl rfl HT_.out (by kernel_rfl) (fun _ _ _ h=>h) ⟨.inl ⟨by rfl,fun w'=>by go_simp;with_reducible rfl⟩,by simp only [Qf,Qb,Qe,Qd,Qc,Qk,Qm];rfl,?_⟩;refine qqa (i:=20) (N:=none) (Qg 21 2097151) rfl rfl (Gf HT_.out (by kernel_rfl)) (by decide) (fun K hK => ?_);refine qgK (w1:=?_) (by rfl) rfl ?_ ?_;rotate_left
       ·
        go_simp;rfl
       refine hK.out _ _ ?_;clear hK K;refine Oz (Ga HT_.out (by kernel_rfl)) ?_
       go_upto_region 21 with (first|((with_reducible refine QF (f:=22) rfl ?_);refine YE (some 176) rfl rfl Try.func22 (by kernel_rfl) rfl #[.slice A0 l0.length c0,.slice (some ⟨qbh,0,none⟩) qmP.length qqt] rfl (by (try simp only [List.map_toArray,List.map_cons,List.map_nil]);first|done|(rw [show qmP.length=J6.length from (Kd.R_reads' qk7.out).1.symm]<;>rfl)|rfl|(simp only [List.length_drop,List.length_take];rfl)) ?_;(with_reducible refine (Qr.calls Jh _ _ l0 _ _ qmP ZM qbq _ ?side1 ?side2 ?side3 ?side4 A64.out).mono ?_);(case side1=>exact Kd.C_below HR0.out (by repeat (first|(with_reducible first|exact HB.out|apply Q2|apply Q1|apply Q4|refine Q8 ?_ qjY.out|refine Q8 ?_ qjY.out)|exact HB.out)));(case side2=>exact HC0.out);(case side3=>refine (Kd.R_reads' (e:=25) (base:=w.heap.size) (ok:=fun k_=>True) (n:=J6.length) (c:=qqt) ?_).2.2;exact (by (with_reducible repeat (first|apply Kd.R_alloc|apply Kd.R_drewN|apply Kd.R_drew));exact qk7.out));(case side4=>rw [show qmP.length=J6.length from (Kd.R_reads' qk7.out).1.symm];exact (Kd.R_reads' JD.out).2.1);rintro e w73 ⟨qu6,rfl,ho0,hb⟩;refine ⟨_,rfl,?_⟩;have n0_:=Q0.mk (Kd.V_below (by (with_reducible repeat (first|apply Kd.V_alloc|apply Kd.V_drewN|apply Kd.V_drew));exact (Kd.V_mono (Kd.V_far (p:=⟨qbh,(Zk:Int).toNat*2+1,none⟩) (Kd.V_far (p:=⟨qbh,(Zk:Int).toNat*2,none⟩) (Kd.V_mono HO_7.out (fun k_ hk=>(⟨hk,fun e_=>by first|exact hk.2 (by rw [e_];rfl)|exact hk.1 (by rw [e_];rfl)⟩:_∧k_≠qbh))) (fun _ hk=>hk.2) (.int .i64 qfn)) (fun _ hk=>hk.2) (.int .i64 qfo)) (fun _ h_=>h_.1))) hb);have n1_:=Q0.mk (Kd.R_below (by (with_reducible repeat (first|apply Kd.R_alloc|apply Kd.R_drewN|apply Kd.R_drew));exact (Kd.R_mono (Kd.R_far (p:=⟨qbh,(Zk:Int).toNat*2+1,none⟩) (Kd.R_far (p:=⟨qbh,(Zk:Int).toNat*2,none⟩) (Kd.R_types HO_9.out qr0.out (by decide)) (fun _ hk=>hk.2) (.int .i64 qfn)) (fun _ hk=>hk.2) (.int .i64 qfo)) (fun _ h_=>h_.1))) hb);have n2_:=Q0.mk (Kd.R_below (by (with_reducible repeat (first|apply Kd.R_alloc|apply Kd.R_drewN|apply Kd.R_drew));exact qk7.out) hb);have n3_:=Q0.mk (Kd.V_lower (Kd.V_mono (ok':=fun k_=>some k_≠(U6:Value).ownBlock∧some k_≠(.slice (some ⟨qbh,0,none⟩) J6.length qqt:Value).ownBlock) ho0 (fun k_ hk_=>⟨(Kd.fresh' (Kd.R_lt (by (with_reducible repeat (first|apply Kd.R_alloc|apply Kd.R_drewN|apply Kd.R_drew));exact (Kd.R_mono (Kd.R_far (p:=⟨qbh,(Zk:Int).toNat*2+1,none⟩) (Kd.R_far (p:=⟨qbh,(Zk:Int).toNat*2,none⟩) (Kd.R_types HO_9.out qr0.out (by decide)) (fun _ hk=>hk.2) (.int .i64 qfn)) (fun _ hk=>hk.2) (.int .i64 qfo)) (fun _ h_=>h_.1)))) k_ hk_),(Kd.fresh' (Kd.R_lt (by (with_reducible repeat (first|apply Kd.R_alloc|apply Kd.R_drewN|apply Kd.R_drew));exact qk7.out)) k_ hk_)⟩)) (Qn (by repeat (first|(with_reducible first|exact HB.out|apply Q2|apply Q1|apply Q4|refine Q8 ?_ qjY.out|refine Q8 ?_ qjY.out)|exact HB.out))));have n4_:=Q0.mk (Qv (by repeat (first|(with_reducible first|exact HB.out|apply Q2|apply Q1|apply Q4|refine Q8 ?_ qjY.out|refine Q8 ?_ qjY.out)|exact HB.out)) hb);clear HO_7 HO_9 JD HB;have HO_7:=n0_;have HO_9:=n1_;have JD:=n2_;have qfL:=n3_;have HB:=n4_;clear n0_ n1_ n2_ n3_ n4_;(try clear hb);(try clear hb2);(try clear hk);(try clear hi);(try clear ho0)))
       (try simp only [Qf,Qb,Qe,Qd,Qc])
       go_cut [199] (fun qCH wc => ∃ (kq:Nat) (qcH:Bool),qCH = .bool qcH∧Q0 (Q6.j4 kq Yj Z2 Yt ZM qcH=some r)∧Q0 (kq≤Jh)∧Q0 (Kd.V k25 25 wc w.heap.size (fun k_=>some k_≠(U6:Value).ownBlock) qdQ Yj)∧Q0 (Kd.R (Kd.int .i64) 3 wc w.heap.size (fun _=>True) U6 Z2)∧Q0 (Kd.V k25 25 wc w.heap.size (fun k_=>some k_≠(U6:Value).ownBlock) qu6 ZM)∧Q0 (Below w.heap.size w wc))
       case first =>
        have H:=qqm.out;clear qqm
        by_cases c74:qbq=0
        ·
         as_aux_lemma =>
         rw [if_pos c74] at H;have c74b0:(qbq==0)=true:=beq_iff_eq.mpr c74;have c74b1:(qbq != 0)=false:=bne_eq_false_iff_eq.mpr c74;clear c74
         (first|rw [c74b0]|(simp only [Qk,Qm];rw [c74b0])|skip)
         have H':=Q0.mk H;clear H;obtain ⟨qFy,qFR,qBV⟩:=Kd.V_slice qfL.out;subst qBV
         go_wp2
         go_meet
         case rel=>exact ⟨_,(((ZM.length:Int) != (l0.length:Int))),(by first|rfl|(simp;done)|(simp [*];done)),H',⟨by have:=HJ4.out;have:=HK2.out;have:=qfK.out;first|omega|exact Nat.le_refl _⟩,⟨by (with_reducible repeat (first|apply Kd.V_alloc|apply Kd.V_drewN|apply Kd.V_drew));exact Kd.V_mono HO_7.out (fun _ hk=>by first|exact hk.1|exact hk.2)⟩,⟨by (with_reducible repeat (first|apply Kd.R_alloc|apply Kd.R_drewN|apply Kd.R_drew));exact HO_9.out⟩,⟨by (with_reducible repeat (first|apply Kd.V_alloc|apply Kd.V_drewN|apply Kd.V_drew));exact Kd.V_mono qfL.out (fun _ hk=>hk.1)⟩,⟨by repeat (first|(with_reducible first|exact HB.out|apply Q2|apply Q1|apply Q4)|exact HB.out)⟩⟩
        as_aux_lemma =>
        rw [if_neg c74] at H;have c74b0:(qbq==0)=false:=beq_eq_false_iff_ne.mpr c74;have c74b1:(qbq != 0)=true:=bne_iff_ne.mpr c74
        (first|rw [c74b0]|(simp only [Qk,Qm];rw [c74b0])|skip)
        by_cases c76:qbq=4
        ·
         as_aux_lemma =>
         rw [if_pos c76] at H;have c76b0:(qbq==4)=true:=beq_iff_eq.mpr c76;have c76b1:(qbq != 4)=false:=bne_eq_false_iff_eq.mpr c76;clear c76
         by_cases c77:Jj=0
         ·
          rw [if_pos c77] at H;have c77b0:(Jj==0)=true:=beq_iff_eq.mpr c77;have c77b1:(Jj != 0)=false:=bne_eq_false_iff_eq.mpr c77;clear c77;have H':=Q0.mk H;clear H
          go_wp2
          go_meet
          case rel=>exact ⟨_,(true),(by first|rfl|(simp;done)|(simp [*];done)),H',⟨by have:=HJ4.out;have:=HK2.out;have:=qfK.out;first|omega|exact Nat.le_refl _⟩,⟨by (with_reducible repeat (first|apply Kd.V_alloc|apply Kd.V_drewN|apply Kd.V_drew));exact Kd.V_mono HO_7.out (fun _ hk=>by first|exact hk.1|exact hk.2)⟩,⟨by (with_reducible repeat (first|apply Kd.R_alloc|apply Kd.R_drewN|apply Kd.R_drew));exact HO_9.out⟩,⟨by (with_reducible repeat (first|apply Kd.V_alloc|apply Kd.V_drewN|apply Kd.V_drew));exact Kd.V_mono qfL.out (fun _ hk=>hk.1)⟩,⟨by repeat (first|(with_reducible first|exact HB.out|apply Q2|apply Q1|apply Q4)|exact HB.out)⟩⟩
         rw [if_neg c77] at H;have c77b0:(Jj==0)=false:=beq_eq_false_iff_ne.mpr c77;have c77b1:(Jj != 0)=true:=bne_iff_ne.mpr c77;have H':=Q0.mk H;clear H
         go_wp2
         go_meet
         case rel=>exact ⟨_,(false),(by first|rfl|(simp;done)|(simp [*];done)),H',⟨by have:=HJ4.out;have:=HK2.out;have:=qfK.out;first|omega|exact Nat.le_refl _⟩,⟨by (with_reducible repeat (first|apply Kd.V_alloc|apply Kd.V_drewN|apply Kd.V_drew));exact Kd.V_mono HO_7.out (fun _ hk=>by first|exact hk.1|exact hk.2)⟩,⟨by (with_reducible repeat (first|apply Kd.R_alloc|apply Kd.R_drewN|apply Kd.R_drew));exact HO_9.out⟩,⟨by (with_reducible repeat (first|apply Kd.V_alloc|apply Kd.V_drewN|apply Kd.V_drew));exact Kd.V_mono qfL.out (fun _ hk=>hk.1)⟩,⟨by repeat (first|(with_reducible first|exact HB.out|apply Q2|apply Q1|apply Q4)|exact HB.out)⟩⟩
        rw [if_neg c76] at H;have c76b0:(qbq==4)=false:=beq_eq_false_iff_ne.mpr c76;have c76b1:(qbq != 4)=true:=bne_iff_ne.mpr c76;have H':=Q0.mk H;clear H
        go_wp2
        go_meet
        case rel=>exact ⟨_,(true),(by first|rfl|(simp;done)|(simp [*];done)),H',⟨by have:=HJ4.out;have:=HK2.out;have:=qfK.out;first|omega|exact Nat.le_refl _⟩,⟨by (with_reducible repeat (first|apply Kd.V_alloc|apply Kd.V_drewN|apply Kd.V_drew));exact Kd.V_mono HO_7.out (fun _ hk=>by first|exact hk.1|exact hk.2)⟩,⟨by (with_reducible repeat (first|apply Kd.R_alloc|apply Kd.R_drewN|apply Kd.R_drew));exact HO_9.out⟩,⟨by (with_reducible repeat (first|apply Kd.V_alloc|apply Kd.V_drewN|apply Kd.V_drew));exact Kd.V_mono qfL.out (fun _ hk=>hk.1)⟩,⟨by repeat (first|(with_reducible first|exact HB.out|apply Q2|apply Q1|apply Q4)|exact HB.out)⟩⟩
       clear qqm;(try clear c2);(try clear p2);(try clear c3);(try clear c4);(try clear c5);(try clear c6);(try clear p6);(try clear q6);(try clear hx6);(try clear hf6);(try clear c7);(try clear p8);(try clear q8);(try clear hx8);(try clear c22);(try clear c22b0);(try clear c36);(try clear c38);(try clear c39);(try clear c40);(try clear c41);(try clear c41b0);(try clear c42);(try clear c43);(try clear c46);(try clear c46b0);(try clear c46b1);(try clear c48);(try clear c49);(try clear c49b0);(try clear c49b1);(try clear c52);(try clear c53);(try clear c58);(try clear c58b0);(try clear c59);(try clear c59b0);(try clear c63);(try clear p63);(try clear q63);(try clear qCE);(try clear qCa);(try clear p64);(try clear c72);(try clear c74);(try clear c74b0);(try clear c74b1);(try clear c76);(try clear c76b0);(try clear c76b1);(try clear c77);(try clear c77b0);(try clear c77b1);(try clear ql7);(try clear ql8);(try clear GI);(try clear GJ);(try clear qaM);(try clear qaN);(try clear qaO);(try clear qaP);(try clear p2);(try clear p6);(try clear p63);(try clear p8);(try clear qdE);(try clear qmk);(try clear qml);(try clear q63);(try clear q8);(try clear qdG);(try clear qmr);(try clear qms);obtain ⟨kq,qcH,rfl,HA,qmX,HO_7,HO_9,HO_17,HB⟩:=hcut
       cases kq with
       | zero=>exact absurd HA.out (by simp [Q6.j4])
       | succ qqX =>
        have H:=HA.out;clear HA;simp only [Q6.j4] at H
        by_cases c78:qcH=true
        ·
         subst c78
         have H1:(some false)=some r:=by rw [if_pos rfl] at H;exact H
         clear H;have H:=H1;clear H1;obtain rfl:=Option.some.inj H
         go_wp2
         go_ret
         exact ⟨by first|rfl|(simp [QC,QD]<;>rfl)|(simp only [← OE,← OG];first|rfl|(simp [QC,QD]<;>rfl))|(simp [*,QC,QD]<;>rfl),by repeat (first|(with_reducible first|exact HB.out|apply Q2|apply Q1|apply Q4)|exact HB.out)⟩
        as_aux_lemma =>
        replace c78:=Bool.eq_false_iff.mpr c78;subst c78
        have H1:(Q6.l2 qqX Yj Z2 Yt ZM 0)=some r:=by rw [if_neg (show ¬ (false=true) by decide)] at H;exact H
        clear H;have H:=H1;clear H1;have H':=Q0.mk H;clear H
        go_wp2
        go_loopg [19] qqX (fun kq v19 w' => ∃ (Qz:Int),v19 = .int .i64 Qz∧Q0 (Q6.l2 kq Yj Z2 Yt ZM Qz=some r)∧Q0 (kq≤qqX)∧Q0 (Kd.V k25 25 w' w.heap.size (fun k_=>some k_≠(U6:Value).ownBlock) qdQ Yj)∧Q0 (Kd.R (Kd.int .i64) 3 w' w.heap.size (fun _=>True) U6 Z2)∧Q0 (Kd.V k25 25 w' w.heap.size (fun k_=>some k_≠(U6:Value).ownBlock) qu6 ZM)∧Q0 (Below w.heap.size w w'))
        case atStart=>exact ⟨(0),(by first|rfl|(simp;done)|(simp [*];done)),H',⟨Nat.le_refl _⟩,⟨by (with_reducible repeat (first|apply Kd.V_alloc|apply Kd.V_drewN|apply Kd.V_drew));exact HO_7.out⟩,⟨by (with_reducible repeat (first|apply Kd.R_alloc|apply Kd.R_drewN|apply Kd.R_drew));exact HO_9.out⟩,⟨by (with_reducible repeat (first|apply Kd.V_alloc|apply Kd.V_drewN|apply Kd.V_drew));exact HO_17.out⟩,⟨by repeat (first|(with_reducible first|exact HB.out|apply Q2|apply Q1|apply Q4)|exact HB.out)⟩⟩
        clear H';(try clear c2);(try clear p2);(try clear c3);(try clear c4);(try clear c5);(try clear c6);(try clear p6);(try clear q6);(try clear hx6);(try clear hf6);(try clear c7);(try clear p8);(try clear q8);(try clear hx8);(try clear c22);(try clear c22b0);(try clear c36);(try clear c38);(try clear c39);(try clear c40);(try clear c41);(try clear c41b0);(try clear c42);(try clear c43);(try clear c46);(try clear c46b0);(try clear c46b1);(try clear c48);(try clear c49);(try clear c49b0);(try clear c49b1);(try clear c52);(try clear c53);(try clear c58);(try clear c58b0);(try clear c59);(try clear c59b0);(try clear c63);(try clear p63);(try clear q63);(try clear qCE);(try clear qCa);(try clear p64);(try clear c72);(try clear c74);(try clear c74b0);(try clear c74b1);(try clear c76);(try clear c76b0);(try clear c76b1);(try clear c77);(try clear c77b0);(try clear c77b1);(try clear c78);(try clear ql7);(try clear ql8);(try clear GI);(try clear GJ);(try clear qaM);(try clear qaN);(try clear qaO);(try clear qaP);(try clear p2);(try clear p6);(try clear p63);(try clear p64);(try clear p8);(try clear qdE);(try clear qmk);(try clear qml);(try clear q6);(try clear q63);(try clear q8);(try clear qdG);(try clear qmr);(try clear qms);obtain ⟨Qz,rfl,HA,HK5,HO_7,HO_9,HO_17,HB⟩:=hrel
        cases gk with
        | zero=>exact absurd HA.out (by simp [Q6.l2])
        | succ k5 =>
         have H:=HA.out;clear HA;simp only [Q6.l2] at H
         by_cases c79:Qz<(Yj.length:Int)
         ·
          as_aux_lemma =>
          rw [if_pos c79] at H;have c79b0:decide (Qz<(Yj.length:Int))=true:=decide_eq_true c79;clear c79
          by_cases c80:Yt=true
          ·
           as_aux_lemma =>
           subst c80
           have H1:(if 0≤Qz then (if Qz<(Z2.length:Int) then ((ZF.f ((Qo Yj Qz).f0) ((Qo Yj Qz).f1) (rd Z2 Qz)).bind fun qkG=>(if qkG=true then (if Qz<(ZM.length:Int) then (if ((Qo ZM Qz).f0)>((Qo Yj Qz).f0) then (some false) else (if ((Qo ZM Qz).f1)<((Qo Yj Qz).f1) then (some false) else (Q6.l2 k5 Yj Z2 true ZM (wrap64 (Qz+1))))) else (none)) else (some false))) else (none)) else (none))=some r:=by rw [if_pos rfl] at H;exact H
           clear H;have H:=H1;clear H1
           by_cases c81:0≤Qz
           ·
            as_aux_lemma =>
            rw [if_pos c81] at H;have c81b0:decide (0≤Qz)=true:=decide_eq_true c81;clear c81
            by_cases c82:Qz<(Z2.length:Int)
            ·
             as_aux_lemma =>
             rw [if_pos c82] at H;have c82b0:decide (Qz<(Z2.length:Int))=true:=decide_eq_true c82;clear c82;replace H:=Option.bind_eq_some_iff.mp H;obtain ⟨qkG,qrM,H⟩:=H;replace H:(if qkG=true then (if Qz<(ZM.length:Int) then (if ((Qo ZM Qz).f0)>((Qo Yj Qz).f0) then (some false) else (if ((Qo ZM Qz).f1)<((Qo Yj Qz).f1) then (some false) else (Q6.l2 k5 Yj Z2 true ZM (wrap64 (Qz+1))))) else (none)) else (some false))=some r:=H;have A83:=Q0.mk qrM;clear qrM
             by_cases c84:qkG=true
             ·
              as_aux_lemma =>
              subst c84
              have H1:(if Qz<(ZM.length:Int) then (if ((Qo ZM Qz).f0)>((Qo Yj Qz).f0) then (some false) else (if ((Qo ZM Qz).f1)<((Qo Yj Qz).f1) then (some false) else (Q6.l2 k5 Yj Z2 true ZM (wrap64 (Qz+1))))) else (none))=some r:=by rw [if_pos rfl] at H;exact H
              clear H;have H:=H1;clear H1
              by_cases c85:Qz<(ZM.length:Int)
              ·
               as_aux_lemma =>
               rw [if_pos c85] at H;have c85b0:decide (Qz<(ZM.length:Int))=true:=decide_eq_true c85;clear c85
               by_cases c86:((Qo ZM Qz).f0)>((Qo Yj Qz).f0)
               ·
                as_aux_lemma =>
                rw [if_pos c86] at H;have c86b0:decide (((Qo Yj Qz).f0)<((Qo ZM Qz).f0))=true:=decide_eq_true c86;clear c86;obtain rfl:=Option.some.inj H;obtain ⟨qFz,qFS,qBW⟩:=Kd.V_slice HO_7.out;subst qBW
                try go_wp2
                have n0_:=Q0.mk (Kd.V_drew HO_7.out);have n1_:=Q0.mk (Kd.R_drew HO_9.out);have n2_:=Q0.mk (Kd.V_drew HO_17.out);have n3_:=Q0.mk (Q4 HB.out);clear HO_7 HO_9 HO_17 HB;have HO_7:=n0_;have HO_9:=n1_;have HO_17:=n2_;have HB:=n3_;clear n0_ n1_ n2_ n3_;have Xz:0≤(Qz:Int):=of_decide_eq_true (by first|(with_reducible assumption)|assumption);have XD:Qz<(Yj.length:Int):=of_decide_eq_true (by first|(with_reducible assumption)|assumption);obtain ⟨JE,qhm,O0,O1⟩:=ZD (Kd.V_reads' HO_7.out).2.2 Qz Xz XD;cases qhm;replace Xz:=eq_true Xz;replace XD:=eq_true XD;obtain ⟨qFA,qFT,qsZ⟩:=Kd.R_slice HO_9.out
                (first|subst qsZ|(injection qsZ with f1_ f2_ f3_;have f4_:=f1_.symm;have f5_:=f3_.symm;clear f1_ f2_ f3_;subst f4_;subst f5_))
                have XA:0≤(Qz:Int):=of_decide_eq_true (by first|(with_reducible assumption)|assumption);have XE:Qz<(Z2.length:Int):=of_decide_eq_true (by first|(with_reducible assumption)|assumption);obtain ⟨qcV,qhn,O2⟩:=Kd.at_int (Kd.R_reads' HO_9.out).2.2 Qz XA XE;cases qhn;replace XA:=eq_true XA;replace XE:=eq_true XE;have qdc:0≤(Qz:Int):=of_decide_eq_true (by first|(with_reducible assumption)|assumption);have qdh:Qz<(ZM.length:Int):=of_decide_eq_true (by first|(with_reducible assumption)|assumption);obtain ⟨qC2,qDH,qs0⟩:=Kd.V_slice HO_17.out
                (first|subst qs0|skip)
                obtain ⟨KS,qly,UC,UD⟩:=ZD (Kd.V_reads' HO_17.out).2.2 Qz qdc qdh;cases qly;replace qdc:=eq_true qdc;replace qdh:=eq_true qdh;have qdd:0≤(Qz:Int):=of_decide_eq_true (by first|(with_reducible assumption)|assumption);have qdi:Qz<(Yj.length:Int):=of_decide_eq_true (by first|(with_reducible assumption)|assumption);obtain ⟨qfN,qlz,UE,UF⟩:=ZD (Kd.V_reads' HO_7.out).2.2 Qz qdd qdi;obtain rfl:JE=qfN:=(by injection qlz);replace qdd:=eq_true qdd;replace qdi:=eq_true qdi;refine GU (n:=39) (S:=fun w'=>w'.cell? (JE.add ((Qz).toNat*2))=some (.int .i64 ((Qo Yj Qz).f0))∧w'.cell? ⟨(JE.add ((Qz).toNat*2)).block,(JE.add ((Qz).toNat*2)).off+1,none⟩=some (.int .i64 ((Qo Yj Qz).f1))∧w'.cell? (qcV.add (Qz).toNat)=some (.int .i64 (rd Z2 Qz))∧w'.cell? (KS.add ((Qz).toNat*2))=some (.int .i64 ((Qo ZM Qz).f0))∧w'.cell? ⟨(KS.add ((Qz).toNat*2)).block,(KS.add ((Qz).toNat*2)).off+1,none⟩=some (.int .i64 ((Qo ZM Qz).f1))∧w'.cell? (JE.add ((Qz).toNat*2))=some (.int .i64 ((Qo Yj Qz).f0))∧w'.cell? ⟨(JE.add ((Qz).toNat*2)).block,(JE.add ((Qz).toNat*2)).off+1,none⟩=some (.int .i64 ((Qo Yj Qz).f1))) (ds:=[]) (Qg 39 0) (by kernel_rfl) rfl rfl ⟨O0,O1,O2,UC,UD,UE,UF⟩ (fun hHeld => ?_);refine Jn Q6.tab26 Q6.bits26 (fun HT_ HW_ => ?_)
                generalize wr.drew=w88 at HO_7 HO_9 HO_17 HB O0 O1 O2 UC UD UE UF hHeld ⊢
                refine Qh 0 (some 206) (Qg 39 1) rfl rfl HT_.out (by kernel_rfl) (fun _ _ _ h=>h) ⟨.inl ⟨by rfl,fun w'=>by go_simp;with_reducible rfl⟩,by simp only [Qf,Qb,Qe,Qd,Qc,Qk,Qm];rfl,?_⟩;refine Qh 1 (some 207) (Qg 39 3) rfl rfl HT_.out (by kernel_rfl) (fun _ _ _ h=>h) ⟨.inl ⟨by rfl,fun w'=>by go_simp;with_reducible rfl⟩,by simp only [Qf,Qb,Qe,Qd,Qc,Qk,Qm];rfl,?_⟩;refine Qh 2 (some 208) (Qg 39 7) rfl rfl HT_.out (by kernel_rfl) (fun _ _ _ h=>h) ⟨.inl ⟨by rfl,fun w'=>by go_simp;with_reducible rfl⟩,by simp only [Qf,Qb,Qe,Qd,Qc,Qk,Qm];rfl,?_⟩;refine Qh 3 (some 209) (Qg 39 15) rfl rfl HT_.out (by kernel_rfl) (fun _ _ _ h=>h) ⟨.inl ⟨by rfl,fun w'=>by go_simp;with_reducible rfl⟩,by simp only [Qf,Qb,Qe,Qd,Qc,Qk,Qm];rfl,?_⟩;refine Qh 4 (some 210) (Qg 39 31) rfl rfl HT_.out (by kernel_rfl) (fun _ _ _ h=>h) ⟨.inl ⟨by rfl,fun w'=>by go_simp;with_reducible rfl⟩,by simp only [Qf,Qb,Qe,Qd,Qc,Qk,Qm];rfl,?_⟩;refine Qh 6 (some 212) (Qg 39 95) rfl rfl HT_.out (by kernel_rfl) (fun _ _ _ h=>h) ⟨.inl ⟨by rfl,fun w'=>by go_simp;with_reducible rfl⟩,by simp only [Qf,Qb,Qe,Qd,Qc,Qk,Qm];rfl,?_⟩;refine Qh 7 (some 213) (Qg 39 223) rfl rfl HT_.out (by kernel_rfl) (fun _ _ _ h=>h) ⟨.inl ⟨by rfl,fun w'=>by go_simp;with_reducible rfl⟩,by simp only [Qf,Qb,Qe,Qd,Qc,Qk,Qm];rfl,?_⟩;refine Qh 8 (some 214) (Qg 39 479) rfl rfl HT_.out (by kernel_rfl) (fun _ _ _ h=>h) ⟨.inl ⟨by rfl,fun w'=>by go_simp;with_reducible rfl⟩,by simp only [Qf,Qb,Qe,Qd,Qc,Qk,Qm];rfl,?_⟩;refine Yn 5 (some 211) (Qg 39 511) rfl rfl (Yo HT_.out HW_.out (by kernel_rfl)) (fun _ _ _ h=>h) hHeld ⟨.inl ⟨by rfl,by rintro w' ⟨s0,s1,s2,s3,s4,s5,s6⟩;go_simp;with_reducible rfl⟩,by simp only [Qf,Qb,Qe,Qd,Qc,Qk,Qm];rfl,?_⟩;refine Yn 9 (some 215) (Qg 39 1023) rfl rfl (Yo HT_.out HW_.out (by kernel_rfl)) (fun _ _ _ h=>h) hHeld ⟨.inl ⟨by rfl,by rintro w' ⟨s0,s1,s2,s3,s4,s5,s6⟩;go_simp;with_reducible rfl⟩,by simp only [Qf,Qb,Qe,Qd,Qc,Qk,Qm];rfl,?_⟩;refine one_ (i:=10) (N:=some 216) (Qg 39 2047) rfl rfl (Gf HT_.out (by kernel_rfl)) (by decide) (fun K hK => ?_);refine Wg Try.func44 (by kernel_rfl) rfl #[.agg #[.int .i64 ((Qo Yj Qz).f0),.int .i64 ((Qo Yj Qz).f1)],.int .i64 (rd Z2 Qz)] (by rfl) rfl rfl (by (try simp only [List.map_toArray,List.map_cons,List.map_nil]);first|done|rfl|(simp only [List.length_drop,List.length_take];rfl)) ?_
                with_reducible refine (ZF.calls ((Qo Yj Qz).f0) ((Qo Yj Qz).f1) (rd Z2 Qz) true _ A83.out).mono ?_
                rintro e w90 ⟨rfl,hb⟩;have HS0_:=(hb.cell (World.block_lt_of_cell? _ _ (hHeld.1))).trans (hHeld.1);have HS1_:=(hb.cell (World.block_lt_of_cell? _ _ (hHeld.2.1))).trans (hHeld.2.1);have HS2_:=(hb.cell (World.block_lt_of_cell? _ _ (hHeld.2.2.1))).trans (hHeld.2.2.1);have HS3_:=(hb.cell (World.block_lt_of_cell? _ _ (hHeld.2.2.2.1))).trans (hHeld.2.2.2.1);have HS4_:=(hb.cell (World.block_lt_of_cell? _ _ (hHeld.2.2.2.2.1))).trans (hHeld.2.2.2.2.1);have HS5_:=(hb.cell (World.block_lt_of_cell? _ _ (hHeld.2.2.2.2.2.1))).trans (hHeld.2.2.2.2.2.1);have HS6_:=(hb.cell (World.block_lt_of_cell? _ _ (hHeld.2.2.2.2.2.2))).trans (hHeld.2.2.2.2.2.2);refine ⟨_,rfl,?_⟩;have n0_:=Q0.mk (Kd.V_below (by (with_reducible repeat (first|apply Kd.V_alloc|apply Kd.V_drewN|apply Kd.V_drew));exact HO_7.out) hb);have n1_:=Q0.mk (Kd.R_below (by (with_reducible repeat (first|apply Kd.R_alloc|apply Kd.R_drewN|apply Kd.R_drew));exact HO_9.out) hb);have n2_:=Q0.mk (Kd.V_below (by (with_reducible repeat (first|apply Kd.V_alloc|apply Kd.V_drewN|apply Kd.V_drew));exact HO_17.out) hb);have n3_:=Q0.mk (Qv (by repeat (first|(with_reducible first|exact HB.out|apply Q2|apply Q1|apply Q4)|exact HB.out)) hb);clear HO_7 HO_9 HO_17 HB;have HO_7:=n0_;have HO_9:=n1_;have HO_17:=n2_;have HB:=n3_;clear n0_ n1_ n2_ n3_
                (try clear hb)
                (try clear hb2)
                (try clear hk)
                (try clear hi)
                obtain ⟨qFB,qFU,qs3⟩:=Kd.V_slice HO_17.out
                (first|subst qs3|(injection qs3 with f1_ f2_ f3_;have f4_:=f1_.symm;have f5_:=f3_.symm;clear f1_ f2_ f3_;subst f4_;subst f5_))
                refine hK.out _ _ ⟨HS0_,HS1_,HS2_,HS3_,HS4_,HS5_,HS6_⟩ (fun hHeld => ?_);clear hK K;refine G9 (a':=?_) ?_ ?_;rotate_left
                ·
                 show Act.put _ (some 216) _=_
                 simp only [Qf,Qb,Qe,Qd,Qc,Qk,Qm];rfl
                refine Qh 11 (some 217) (Qg 39 4095) rfl rfl HT_.out (by kernel_rfl) (fun _ _ _ h=>h) ⟨.inl ⟨by rfl,fun w'=>by go_simp;with_reducible rfl⟩,by simp only [Qf,Qb,Qe,Qd,Qc,Qk,Qm];rfl,?_⟩;refine Qh 12 (some 218) (Qg 39 8191) rfl rfl HT_.out (by kernel_rfl) (fun _ _ _ h=>h) ⟨.inl ⟨by rfl,fun w'=>by go_simp;with_reducible rfl⟩,by simp only [Qf,Qb,Qe,Qd,Qc,Qk,Qm];rfl,?_⟩;refine Qh 13 (some 219) (Qg 39 16383) rfl rfl HT_.out (by kernel_rfl) (fun _ _ _ h=>h) ⟨.inl ⟨by rfl,fun w'=>by go_simp;with_reducible rfl⟩,by simp only [Qf,Qb,Qe,Qd,Qc,Qk,Qm];rfl,?_⟩;refine Qh 14 (some 220) (Qg 39 32767) rfl rfl HT_.out (by kernel_rfl) (fun _ _ _ h=>h) ⟨.inl ⟨by rfl,fun w'=>by go_simp;with_reducible rfl⟩,by simp only [Qf,Qb,Qe,Qd,Qc,Qk,Qm];rfl,?_⟩;refine Qh 15 (some 221) (Qg 39 65535) rfl rfl HT_.out (by kernel_rfl) (fun _ _ _ h=>h) ⟨.inl ⟨by rfl,fun w'=>by go_simp;with_reducible rfl⟩,by simp only [Qf,Qb,Qe,Qd,Qc,Qk,Qm];rfl,?_⟩;refine Qh 16 (some 222) (Qg 39 131071) rfl rfl HT_.out (by kernel_rfl) (fun _ _ _ h=>h) ⟨.inl ⟨by rfl,fun w'=>by go_simp;with_reducible rfl⟩,by simp only [Qf,Qb,Qe,Qd,Qc,Qk,Qm];rfl,?_⟩;refine Qh 17 (some 223) (Qg 39 262143) rfl rfl HT_.out (by kernel_rfl) (fun _ _ _ h=>h) ⟨.inl ⟨by rfl,fun w'=>by go_simp;with_reducible rfl⟩,by simp only [Qf,Qb,Qe,Qd,Qc,Qk,Qm];rfl,?_⟩;refine Qh 19 (some 225) (Qg 39 786431) rfl rfl HT_.out (by kernel_rfl) (fun _ _ _ h=>h) ⟨.inl ⟨by rfl,fun w'=>by go_simp;with_reducible rfl⟩,by simp only [Qf,Qb,Qe,Qd,Qc,Qk,Qm];rfl,?_⟩;refine Qh 20 (some 226) (Qg 39 1835007) rfl rfl HT_.out (by kernel_rfl) (fun _ _ _ h=>h) ⟨.inl ⟨by rfl,fun w'=>by go_simp;with_reducible rfl⟩,by simp only [Qf,Qb,Qe,Qd,Qc,Qk,Qm];rfl,?_⟩;refine Qh 21 (some 227) (Qg 39 3932159) rfl rfl HT_.out (by kernel_rfl) (fun _ _ _ h=>h) ⟨.inl ⟨by rfl,fun w'=>by go_simp;with_reducible rfl⟩,by simp only [Qf,Qb,Qe,Qd,Qc,Qk,Qm];rfl,?_⟩;refine Qh 22 (some 228) (Qg 39 8126463) rfl rfl HT_.out (by kernel_rfl) (fun _ _ _ h=>h) ⟨.inl ⟨by rfl,fun w'=>by go_simp;with_reducible rfl⟩,by simp only [Qf,Qb,Qe,Qd,Qc,Qk,Qm];rfl,?_⟩;refine Yn 18 (some 224) (Qg 39 8388607) rfl rfl (Yo HT_.out HW_.out (by kernel_rfl)) (fun _ _ _ h=>h) hHeld ⟨.inl ⟨by rfl,by rintro w' ⟨s0,s1,s2,s3,s4,s5,s6⟩;go_simp;with_reducible rfl⟩,by simp only [Qf,Qb,Qe,Qd,Qc,Qk,Qm];rfl,?_⟩;refine Yn 23 (some 229) (Qg 39 16777215) rfl rfl (Yo HT_.out HW_.out (by kernel_rfl)) (fun _ _ _ h=>h) hHeld ⟨.inl ⟨by rfl,by rintro w' ⟨s0,s1,s2,s3,s4,s5,s6⟩;go_simp;with_reducible rfl⟩,by simp only [Qf,Qb,Qe,Qd,Qc,Qk,Qm];rfl,?_⟩;refine Qh 24 (some 230) (Qg 39 33554431) rfl rfl HT_.out (by kernel_rfl) (fun _ _ _ h=>h) ⟨.inl ⟨by rfl,fun w'=>by go_simp;with_reducible rfl⟩,by simp only [Qf,Qb,Qe,Qd,Qc,Qk,Qm];rfl,?_⟩;refine Qh 25 (some 231) (Qg 39 67108863) rfl rfl HT_.out (by kernel_rfl) (fun _ _ _ h=>h) ⟨.inl ⟨by rfl,fun w'=>by go_simp;with_reducible rfl⟩,by simp only [Qf,Qb,Qe,Qd,Qc,Qk,Qm];rfl,?_⟩;refine Qh 26 (some 232) (Qg 39 134217727) rfl rfl HT_.out (by kernel_rfl) (fun _ _ _ h=>h) ⟨.inl ⟨by rfl,fun w'=>by go_simp;with_reducible rfl⟩,by simp only [Qf,Qb,Qe,Qd,Qc,Qk,Qm];rfl,?_⟩;refine Qh 27 (some 233) (Qg 39 268435455) rfl rfl HT_.out (by kernel_rfl) (fun _ _ _ h=>h) ⟨.inr ⟨by rfl,rfl⟩,by simp only [Qf,Qb,Qe,Qd,Qc,Qk,Qm];rfl,?_⟩;refine Qh 28 (some 234) (Qg 39 536870911) rfl rfl HT_.out (by kernel_rfl) (fun _ _ _ h=>h) ⟨.inr ⟨by rfl,rfl⟩,by simp only [Qf,Qb,Qe,Qd,Qc,Qk,Qm];rfl,?_⟩;refine Qh 29 (some 235) (Qg 39 1073741823) rfl rfl HT_.out (by kernel_rfl) (fun _ _ _ h=>h) ⟨.inr ⟨by rfl,rfl⟩,by simp only [Qf,Qb,Qe,Qd,Qc,Qk,Qm];rfl,?_⟩;refine Qh 30 (some 236) (Qg 39 2147483647) rfl rfl HT_.out (by kernel_rfl) (fun _ _ _ h=>h) ⟨.inr ⟨by rfl,rfl⟩,by simp only [Qf,Qb,Qe,Qd,Qc,Qk,Qm];rfl,?_⟩;refine Qh 31 (some 237) (Qg 39 4294967295) rfl rfl HT_.out (by kernel_rfl) (fun _ _ _ h=>h) ⟨.inr ⟨by rfl,rfl⟩,by simp only [Qf,Qb,Qe,Qd,Qc,Qk,Qm];rfl,?_⟩;refine Qh 32 (some 238) (Qg 39 8589934591) rfl rfl HT_.out (by kernel_rfl) (fun _ _ _ h=>h) ⟨.inr ⟨by rfl,rfl⟩,by simp only [Qf,Qb,Qe,Qd,Qc,Qk,Qm];rfl,?_⟩;refine Qh 33 (some 239) (Qg 39 17179869183) rfl rfl HT_.out (by kernel_rfl) (fun _ _ _ h=>h) ⟨.inr ⟨by rfl,rfl⟩,by simp only [Qf,Qb,Qe,Qd,Qc,Qk,Qm];rfl,?_⟩;refine Qh 34 (some 240) (Qg 39 34359738367) rfl rfl HT_.out (by kernel_rfl) (fun _ _ _ h=>h) ⟨.inr ⟨by rfl,rfl⟩,by simp only [Qf,Qb,Qe,Qd,Qc,Qk,Qm];rfl,?_⟩;refine Qh 35 (some 241) (Qg 39 68719476735) rfl rfl HT_.out (by kernel_rfl) (fun _ _ _ h=>h) ⟨.inr ⟨by rfl,rfl⟩,by simp only [Qf,Qb,Qe,Qd,Qc,Qk,Qm];rfl,?_⟩;refine Qh 36 (some 242) (Qg 39 137438953471) rfl rfl HT_.out (by kernel_rfl) (fun _ _ _ h=>h) ⟨.inr ⟨by rfl,rfl⟩,by simp only [Qf,Qb,Qe,Qd,Qc,Qk,Qm];rfl,?_⟩;refine Qh 37 (some 243) (Qg 39 274877906943) rfl rfl HT_.out (by kernel_rfl) (fun _ _ _ h=>h) ⟨.inr ⟨by rfl,rfl⟩,by simp only [Qf,Qb,Qe,Qd,Qc,Qk,Qm];rfl,?_⟩;refine Qh 38 (some 244) (Qg 39 549755813887) rfl rfl HT_.out (by kernel_rfl) (fun _ _ _ h=>h) ⟨.inl ⟨by rfl,fun w'=>by go_simp;with_reducible rfl⟩,by simp only [Qf,Qb,Qe,Qd,Qc,Qk,Qm];rfl,?_⟩;refine Oz (Ga HT_.out (by kernel_rfl)) ?_
                try go_wp2
                go_ret
                exact ⟨by first|rfl|(simp [QC,QD]<;>rfl)|(simp only [← OE,← OG];first|rfl|(simp [QC,QD]<;>rfl))|(simp [*,QC,QD]<;>rfl),by repeat (first|(with_reducible first|exact HB.out|apply Q2|apply Q1|apply Q4)|exact HB.out)⟩
               as_aux_lemma =>
               rw [if_neg c86] at H;have c86b0:decide (((Qo Yj Qz).f0)<((Qo ZM Qz).f0))=false:=decide_eq_false c86;clear c86
               by_cases c92:((Qo ZM Qz).f1)<((Qo Yj Qz).f1)
               ·
                as_aux_lemma =>
                rw [if_pos c92] at H;have c92b0:decide (((Qo ZM Qz).f1)<((Qo Yj Qz).f1))=true:=decide_eq_true c92;clear c92;obtain rfl:=Option.some.inj H;obtain ⟨qFC,qFV,qBX⟩:=Kd.V_slice HO_7.out;subst qBX
                try go_wp2
                have n0_:=Q0.mk (Kd.V_drew HO_7.out);have n1_:=Q0.mk (Kd.R_drew HO_9.out);have n2_:=Q0.mk (Kd.V_drew HO_17.out);have n3_:=Q0.mk (Q4 HB.out);clear HO_7 HO_9 HO_17 HB;have HO_7:=n0_;have HO_9:=n1_;have HO_17:=n2_;have HB:=n3_;clear n0_ n1_ n2_ n3_;have Xz:0≤(Qz:Int):=of_decide_eq_true (by first|(with_reducible assumption)|assumption);have XD:Qz<(Yj.length:Int):=of_decide_eq_true (by first|(with_reducible assumption)|assumption);obtain ⟨JE,qhm,O0,O1⟩:=ZD (Kd.V_reads' HO_7.out).2.2 Qz Xz XD;cases qhm;replace Xz:=eq_true Xz;replace XD:=eq_true XD;obtain ⟨qFD,qFW,qs4⟩:=Kd.R_slice HO_9.out
                (first|subst qs4|(injection qs4 with f1_ f2_ f3_;have f4_:=f1_.symm;have f5_:=f3_.symm;clear f1_ f2_ f3_;subst f4_;subst f5_))
                have XA:0≤(Qz:Int):=of_decide_eq_true (by first|(with_reducible assumption)|assumption);have XE:Qz<(Z2.length:Int):=of_decide_eq_true (by first|(with_reducible assumption)|assumption);obtain ⟨qcV,qhn,O2⟩:=Kd.at_int (Kd.R_reads' HO_9.out).2.2 Qz XA XE;cases qhn;replace XA:=eq_true XA;replace XE:=eq_true XE;have qdc:0≤(Qz:Int):=of_decide_eq_true (by first|(with_reducible assumption)|assumption);have qdh:Qz<(ZM.length:Int):=of_decide_eq_true (by first|(with_reducible assumption)|assumption);obtain ⟨qC3,qDI,qs1⟩:=Kd.V_slice HO_17.out
                (first|subst qs1|skip)
                obtain ⟨KS,qly,UC,UD⟩:=ZD (Kd.V_reads' HO_17.out).2.2 Qz qdc qdh;cases qly;replace qdc:=eq_true qdc;replace qdh:=eq_true qdh;have qdd:0≤(Qz:Int):=of_decide_eq_true (by first|(with_reducible assumption)|assumption);have qdi:Qz<(Yj.length:Int):=of_decide_eq_true (by first|(with_reducible assumption)|assumption);obtain ⟨qfN,qlz,UE,UF⟩:=ZD (Kd.V_reads' HO_7.out).2.2 Qz qdd qdi;obtain rfl:JE=qfN:=(by injection qlz);replace qdd:=eq_true qdd;replace qdi:=eq_true qdi;have qhP:0≤(Qz:Int):=of_decide_eq_true (by first|(with_reducible assumption)|assumption);have qh4:Qz<(ZM.length:Int):=of_decide_eq_true (by first|(with_reducible assumption)|assumption);obtain ⟨qll,qqC,qaQ,qaR⟩:=ZD (Kd.V_reads' HO_17.out).2.2 Qz qhP qh4;obtain rfl:KS=qll:=(by injection qqC);replace qhP:=eq_true qhP;replace qh4:=eq_true qh4;have qhQ:0≤(Qz:Int):=of_decide_eq_true (by first|(with_reducible assumption)|assumption);have qh5:Qz<(Yj.length:Int):=of_decide_eq_true (by first|(with_reducible assumption)|assumption);obtain ⟨qlm,qqD,qaS,qaT⟩:=ZD (Kd.V_reads' HO_7.out).2.2 Qz qhQ qh5;obtain rfl:JE=qlm:=(by injection qqD);replace qhQ:=eq_true qhQ;replace qh5:=eq_true qh5;refine GU (n:=39) (S:=fun w'=>w'.cell? (JE.add ((Qz).toNat*2))=some (.int .i64 ((Qo Yj Qz).f0))∧w'.cell? ⟨(JE.add ((Qz).toNat*2)).block,(JE.add ((Qz).toNat*2)).off+1,none⟩=some (.int .i64 ((Qo Yj Qz).f1))∧w'.cell? (qcV.add (Qz).toNat)=some (.int .i64 (rd Z2 Qz))∧w'.cell? (KS.add ((Qz).toNat*2))=some (.int .i64 ((Qo ZM Qz).f0))∧w'.cell? ⟨(KS.add ((Qz).toNat*2)).block,(KS.add ((Qz).toNat*2)).off+1,none⟩=some (.int .i64 ((Qo ZM Qz).f1))∧w'.cell? (JE.add ((Qz).toNat*2))=some (.int .i64 ((Qo Yj Qz).f0))∧w'.cell? ⟨(JE.add ((Qz).toNat*2)).block,(JE.add ((Qz).toNat*2)).off+1,none⟩=some (.int .i64 ((Qo Yj Qz).f1))∧w'.cell? (KS.add ((Qz).toNat*2))=some (.int .i64 ((Qo ZM Qz).f0))∧w'.cell? ⟨(KS.add ((Qz).toNat*2)).block,(KS.add ((Qz).toNat*2)).off+1,none⟩=some (.int .i64 ((Qo ZM Qz).f1))∧w'.cell? (JE.add ((Qz).toNat*2))=some (.int .i64 ((Qo Yj Qz).f0))∧w'.cell? ⟨(JE.add ((Qz).toNat*2)).block,(JE.add ((Qz).toNat*2)).off+1,none⟩=some (.int .i64 ((Qo Yj Qz).f1))) (ds:=[]) (Qg 39 0) (by kernel_rfl) rfl rfl ⟨O0,O1,O2,UC,UD,UE,UF,qaQ,qaR,qaS,qaT⟩ (fun hHeld => ?_);refine Jn Q6.tab26 Q6.bits26 (fun HT_ HW_ => ?_)
                generalize wr.drew=w94 at HO_7 HO_9 HO_17 HB O0 O1 O2 UC UD UE UF qaQ qaR qaS qaT hHeld ⊢
                refine Qh 0 (some 206) (Qg 39 1) rfl rfl HT_.out (by kernel_rfl) (fun _ _ _ h=>h) ⟨.inl ⟨by rfl,fun w'=>by go_simp;with_reducible rfl⟩,by simp only [Qf,Qb,Qe,Qd,Qc,Qk,Qm];rfl,?_⟩;refine Qh 1 (some 207) (Qg 39 3) rfl rfl HT_.out (by kernel_rfl) (fun _ _ _ h=>h) ⟨.inl ⟨by rfl,fun w'=>by go_simp;with_reducible rfl⟩,by simp only [Qf,Qb,Qe,Qd,Qc,Qk,Qm];rfl,?_⟩;refine Qh 2 (some 208) (Qg 39 7) rfl rfl HT_.out (by kernel_rfl) (fun _ _ _ h=>h) ⟨.inl ⟨by rfl,fun w'=>by go_simp;with_reducible rfl⟩,by simp only [Qf,Qb,Qe,Qd,Qc,Qk,Qm];rfl,?_⟩;refine Qh 3 (some 209) (Qg 39 15) rfl rfl HT_.out (by kernel_rfl) (fun _ _ _ h=>h) ⟨.inl ⟨by rfl,fun w'=>by go_simp;with_reducible rfl⟩,by simp only [Qf,Qb,Qe,Qd,Qc,Qk,Qm];rfl,?_⟩;refine Qh 4 (some 210) (Qg 39 31) rfl rfl HT_.out (by kernel_rfl) (fun _ _ _ h=>h) ⟨.inl ⟨by rfl,fun w'=>by go_simp;with_reducible rfl⟩,by simp only [Qf,Qb,Qe,Qd,Qc,Qk,Qm];rfl,?_⟩;refine Qh 6 (some 212) (Qg 39 95) rfl rfl HT_.out (by kernel_rfl) (fun _ _ _ h=>h) ⟨.inl ⟨by rfl,fun w'=>by go_simp;with_reducible rfl⟩,by simp only [Qf,Qb,Qe,Qd,Qc,Qk,Qm];rfl,?_⟩;refine Qh 7 (some 213) (Qg 39 223) rfl rfl HT_.out (by kernel_rfl) (fun _ _ _ h=>h) ⟨.inl ⟨by rfl,fun w'=>by go_simp;with_reducible rfl⟩,by simp only [Qf,Qb,Qe,Qd,Qc,Qk,Qm];rfl,?_⟩;refine Qh 8 (some 214) (Qg 39 479) rfl rfl HT_.out (by kernel_rfl) (fun _ _ _ h=>h) ⟨.inl ⟨by rfl,fun w'=>by go_simp;with_reducible rfl⟩,by simp only [Qf,Qb,Qe,Qd,Qc,Qk,Qm];rfl,?_⟩;refine Yn 5 (some 211) (Qg 39 511) rfl rfl (Yo HT_.out HW_.out (by kernel_rfl)) (fun _ _ _ h=>h) hHeld ⟨.inl ⟨by rfl,by rintro w' ⟨s0,s1,s2,s3,s4,s5,s6,s7,s8,s9,s10⟩;go_simp;with_reducible rfl⟩,by simp only [Qf,Qb,Qe,Qd,Qc,Qk,Qm];rfl,?_⟩;refine Yn 9 (some 215) (Qg 39 1023) rfl rfl (Yo HT_.out HW_.out (by kernel_rfl)) (fun _ _ _ h=>h) hHeld ⟨.inl ⟨by rfl,by rintro w' ⟨s0,s1,s2,s3,s4,s5,s6,s7,s8,s9,s10⟩;go_simp;with_reducible rfl⟩,by simp only [Qf,Qb,Qe,Qd,Qc,Qk,Qm];rfl,?_⟩;refine one_ (i:=10) (N:=some 216) (Qg 39 2047) rfl rfl (Gf HT_.out (by kernel_rfl)) (by decide) (fun K hK => ?_);refine Wg Try.func44 (by kernel_rfl) rfl #[.agg #[.int .i64 ((Qo Yj Qz).f0),.int .i64 ((Qo Yj Qz).f1)],.int .i64 (rd Z2 Qz)] (by rfl) rfl rfl (by (try simp only [List.map_toArray,List.map_cons,List.map_nil]);first|done|rfl|(simp only [List.length_drop,List.length_take];rfl)) ?_
                with_reducible refine (ZF.calls ((Qo Yj Qz).f0) ((Qo Yj Qz).f1) (rd Z2 Qz) true _ A83.out).mono ?_
                rintro e w96 ⟨rfl,hb⟩;have HS0_:=(hb.cell (World.block_lt_of_cell? _ _ (hHeld.1))).trans (hHeld.1);have HS1_:=(hb.cell (World.block_lt_of_cell? _ _ (hHeld.2.1))).trans (hHeld.2.1);have HS2_:=(hb.cell (World.block_lt_of_cell? _ _ (hHeld.2.2.1))).trans (hHeld.2.2.1);have HS3_:=(hb.cell (World.block_lt_of_cell? _ _ (hHeld.2.2.2.1))).trans (hHeld.2.2.2.1);have HS4_:=(hb.cell (World.block_lt_of_cell? _ _ (hHeld.2.2.2.2.1))).trans (hHeld.2.2.2.2.1);have HS5_:=(hb.cell (World.block_lt_of_cell? _ _ (hHeld.2.2.2.2.2.1))).trans (hHeld.2.2.2.2.2.1);have HS6_:=(hb.cell (World.block_lt_of_cell? _ _ (hHeld.2.2.2.2.2.2.1))).trans (hHeld.2.2.2.2.2.2.1);have HS7_:=(hb.cell (World.block_lt_of_cell? _ _ (hHeld.2.2.2.2.2.2.2.1))).trans (hHeld.2.2.2.2.2.2.2.1);have HS8_:=(hb.cell (World.block_lt_of_cell? _ _ (hHeld.2.2.2.2.2.2.2.2.1))).trans (hHeld.2.2.2.2.2.2.2.2.1);have HS9_:=(hb.cell (World.block_lt_of_cell? _ _ (hHeld.2.2.2.2.2.2.2.2.2.1))).trans (hHeld.2.2.2.2.2.2.2.2.2.1);have HS10_:=(hb.cell (World.block_lt_of_cell? _ _ (hHeld.2.2.2.2.2.2.2.2.2.2))).trans (hHeld.2.2.2.2.2.2.2.2.2.2);refine ⟨_,rfl,?_⟩;have n0_:=Q0.mk (Kd.V_below (by (with_reducible repeat (first|apply Kd.V_alloc|apply Kd.V_drewN|apply Kd.V_drew));exact HO_7.out) hb);have n1_:=Q0.mk (Kd.R_below (by (with_reducible repeat (first|apply Kd.R_alloc|apply Kd.R_drewN|apply Kd.R_drew));exact HO_9.out) hb);have n2_:=Q0.mk (Kd.V_below (by (with_reducible repeat (first|apply Kd.V_alloc|apply Kd.V_drewN|apply Kd.V_drew));exact HO_17.out) hb);have n3_:=Q0.mk (Qv (by repeat (first|(with_reducible first|exact HB.out|apply Q2|apply Q1|apply Q4)|exact HB.out)) hb);clear HO_7 HO_9 HO_17 HB;have HO_7:=n0_;have HO_9:=n1_;have HO_17:=n2_;have HB:=n3_;clear n0_ n1_ n2_ n3_
                (try clear hb)
                (try clear hb2)
                (try clear hk)
                (try clear hi)
                obtain ⟨qFE,qFX,qs5⟩:=Kd.V_slice HO_17.out
                (first|subst qs5|(injection qs5 with f1_ f2_ f3_;have f4_:=f1_.symm;have f5_:=f3_.symm;clear f1_ f2_ f3_;subst f4_;subst f5_))
                refine hK.out _ _ ⟨HS0_,HS1_,HS2_,HS3_,HS4_,HS5_,HS6_,HS7_,HS8_,HS9_,HS10_⟩ (fun hHeld => ?_);clear hK K;refine G9 (a':=?_) ?_ ?_;rotate_left
                ·
                 show Act.put _ (some 216) _=_
                 simp only [Qf,Qb,Qe,Qd,Qc,Qk,Qm];rfl
                refine Qh 11 (some 217) (Qg 39 4095) rfl rfl HT_.out (by kernel_rfl) (fun _ _ _ h=>h) ⟨.inl ⟨by rfl,fun w'=>by go_simp;with_reducible rfl⟩,by simp only [Qf,Qb,Qe,Qd,Qc,Qk,Qm];rfl,?_⟩;refine Qh 12 (some 218) (Qg 39 8191) rfl rfl HT_.out (by kernel_rfl) (fun _ _ _ h=>h) ⟨.inl ⟨by rfl,fun w'=>by go_simp;with_reducible rfl⟩,by simp only [Qf,Qb,Qe,Qd,Qc,Qk,Qm];rfl,?_⟩;refine Qh 13 (some 219) (Qg 39 16383) rfl rfl HT_.out (by kernel_rfl) (fun _ _ _ h=>h) ⟨.inl ⟨by rfl,fun w'=>by go_simp;with_reducible rfl⟩,by simp only [Qf,Qb,Qe,Qd,Qc,Qk,Qm];rfl,?_⟩;refine Qh 14 (some 220) (Qg 39 32767) rfl rfl HT_.out (by kernel_rfl) (fun _ _ _ h=>h) ⟨.inl ⟨by rfl,fun w'=>by go_simp;with_reducible rfl⟩,by simp only [Qf,Qb,Qe,Qd,Qc,Qk,Qm];rfl,?_⟩;refine Qh 15 (some 221) (Qg 39 65535) rfl rfl HT_.out (by kernel_rfl) (fun _ _ _ h=>h) ⟨.inl ⟨by rfl,fun w'=>by go_simp;with_reducible rfl⟩,by simp only [Qf,Qb,Qe,Qd,Qc,Qk,Qm];rfl,?_⟩;refine Qh 16 (some 222) (Qg 39 131071) rfl rfl HT_.out (by kernel_rfl) (fun _ _ _ h=>h) ⟨.inl ⟨by rfl,fun w'=>by go_simp;with_reducible rfl⟩,by simp only [Qf,Qb,Qe,Qd,Qc,Qk,Qm];rfl,?_⟩;refine Qh 17 (some 223) (Qg 39 262143) rfl rfl HT_.out (by kernel_rfl) (fun _ _ _ h=>h) ⟨.inl ⟨by rfl,fun w'=>by go_simp;with_reducible rfl⟩,by simp only [Qf,Qb,Qe,Qd,Qc,Qk,Qm];rfl,?_⟩;refine Qh 19 (some 225) (Qg 39 786431) rfl rfl HT_.out (by kernel_rfl) (fun _ _ _ h=>h) ⟨.inl ⟨by rfl,fun w'=>by go_simp;with_reducible rfl⟩,by simp only [Qf,Qb,Qe,Qd,Qc,Qk,Qm];rfl,?_⟩;refine Qh 20 (some 226) (Qg 39 1835007) rfl rfl HT_.out (by kernel_rfl) (fun _ _ _ h=>h) ⟨.inl ⟨by rfl,fun w'=>by go_simp;with_reducible rfl⟩,by simp only [Qf,Qb,Qe,Qd,Qc,Qk,Qm];rfl,?_⟩;refine Qh 21 (some 227) (Qg 39 3932159) rfl rfl HT_.out (by kernel_rfl) (fun _ _ _ h=>h) ⟨.inl ⟨by rfl,fun w'=>by go_simp;with_reducible rfl⟩,by simp only [Qf,Qb,Qe,Qd,Qc,Qk,Qm];rfl,?_⟩;refine Qh 22 (some 228) (Qg 39 8126463) rfl rfl HT_.out (by kernel_rfl) (fun _ _ _ h=>h) ⟨.inl ⟨by rfl,fun w'=>by go_simp;with_reducible rfl⟩,by simp only [Qf,Qb,Qe,Qd,Qc,Qk,Qm];rfl,?_⟩;refine Yn 18 (some 224) (Qg 39 8388607) rfl rfl (Yo HT_.out HW_.out (by kernel_rfl)) (fun _ _ _ h=>h) hHeld ⟨.inl ⟨by rfl,by rintro w' ⟨s0,s1,s2,s3,s4,s5,s6,s7,s8,s9,s10⟩;go_simp;with_reducible rfl⟩,by simp only [Qf,Qb,Qe,Qd,Qc,Qk,Qm];rfl,?_⟩;refine Yn 23 (some 229) (Qg 39 16777215) rfl rfl (Yo HT_.out HW_.out (by kernel_rfl)) (fun _ _ _ h=>h) hHeld ⟨.inl ⟨by rfl,by rintro w' ⟨s0,s1,s2,s3,s4,s5,s6,s7,s8,s9,s10⟩;go_simp;with_reducible rfl⟩,by simp only [Qf,Qb,Qe,Qd,Qc,Qk,Qm];rfl,?_⟩;refine Qh 24 (some 230) (Qg 39 33554431) rfl rfl HT_.out (by kernel_rfl) (fun _ _ _ h=>h) ⟨.inl ⟨by rfl,fun w'=>by go_simp;with_reducible rfl⟩,by simp only [Qf,Qb,Qe,Qd,Qc,Qk,Qm];rfl,?_⟩;refine Qh 25 (some 231) (Qg 39 67108863) rfl rfl HT_.out (by kernel_rfl) (fun _ _ _ h=>h) ⟨.inl ⟨by rfl,fun w'=>by go_simp;with_reducible rfl⟩,by simp only [Qf,Qb,Qe,Qd,Qc,Qk,Qm];rfl,?_⟩;refine Qh 26 (some 232) (Qg 39 134217727) rfl rfl HT_.out (by kernel_rfl) (fun _ _ _ h=>h) ⟨.inl ⟨by rfl,fun w'=>by go_simp;with_reducible rfl⟩,by simp only [Qf,Qb,Qe,Qd,Qc,Qk,Qm];rfl,?_⟩;refine Qh 27 (some 233) (Qg 39 268435455) rfl rfl HT_.out (by kernel_rfl) (fun _ _ _ h=>h) ⟨.inl ⟨by rfl,fun w'=>by go_simp;with_reducible rfl⟩,by simp only [Qf,Qb,Qe,Qd,Qc,Qk,Qm];rfl,?_⟩;refine Qh 28 (some 234) (Qg 39 536870911) rfl rfl HT_.out (by kernel_rfl) (fun _ _ _ h=>h) ⟨.inl ⟨by rfl,fun w'=>by go_simp;with_reducible rfl⟩,by simp only [Qf,Qb,Qe,Qd,Qc,Qk,Qm];rfl,?_⟩;refine Qh 29 (some 235) (Qg 39 1073741823) rfl rfl HT_.out (by kernel_rfl) (fun _ _ _ h=>h) ⟨.inl ⟨by rfl,fun w'=>by go_simp;with_reducible rfl⟩,by simp only [Qf,Qb,Qe,Qd,Qc,Qk,Qm];rfl,?_⟩;refine Qh 30 (some 236) (Qg 39 2147483647) rfl rfl HT_.out (by kernel_rfl) (fun _ _ _ h=>h) ⟨.inl ⟨by rfl,fun w'=>by go_simp;with_reducible rfl⟩,by simp only [Qf,Qb,Qe,Qd,Qc,Qk,Qm];rfl,?_⟩;refine Qh 32 (some 238) (Qg 39 6442450943) rfl rfl HT_.out (by kernel_rfl) (fun _ _ _ h=>h) ⟨.inl ⟨by rfl,fun w'=>by go_simp;with_reducible rfl⟩,by simp only [Qf,Qb,Qe,Qd,Qc,Qk,Qm];rfl,?_⟩;refine Qh 33 (some 239) (Qg 39 15032385535) rfl rfl HT_.out (by kernel_rfl) (fun _ _ _ h=>h) ⟨.inl ⟨by rfl,fun w'=>by go_simp;with_reducible rfl⟩,by simp only [Qf,Qb,Qe,Qd,Qc,Qk,Qm];rfl,?_⟩;refine Qh 34 (some 240) (Qg 39 32212254719) rfl rfl HT_.out (by kernel_rfl) (fun _ _ _ h=>h) ⟨.inl ⟨by rfl,fun w'=>by go_simp;with_reducible rfl⟩,by simp only [Qf,Qb,Qe,Qd,Qc,Qk,Qm];rfl,?_⟩;refine Qh 35 (some 241) (Qg 39 66571993087) rfl rfl HT_.out (by kernel_rfl) (fun _ _ _ h=>h) ⟨.inl ⟨by rfl,fun w'=>by go_simp;with_reducible rfl⟩,by simp only [Qf,Qb,Qe,Qd,Qc,Qk,Qm];rfl,?_⟩;refine Yn 31 (some 237) (Qg 39 68719476735) rfl rfl (Yo HT_.out HW_.out (by kernel_rfl)) (fun _ _ _ h=>h) hHeld ⟨.inl ⟨by rfl,by rintro w' ⟨s0,s1,s2,s3,s4,s5,s6,s7,s8,s9,s10⟩;go_simp;with_reducible rfl⟩,by simp only [Qf,Qb,Qe,Qd,Qc,Qk,Qm];rfl,?_⟩;refine Yn 36 (some 242) (Qg 39 137438953471) rfl rfl (Yo HT_.out HW_.out (by kernel_rfl)) (fun _ _ _ h=>h) hHeld ⟨.inl ⟨by rfl,by rintro w' ⟨s0,s1,s2,s3,s4,s5,s6,s7,s8,s9,s10⟩;go_simp;with_reducible rfl⟩,by simp only [Qf,Qb,Qe,Qd,Qc,Qk,Qm];rfl,?_⟩;refine Qh 37 (some 243) (Qg 39 274877906943) rfl rfl HT_.out (by kernel_rfl) (fun _ _ _ h=>h) ⟨.inl ⟨by rfl,fun w'=>by go_simp;with_reducible rfl⟩,by simp only [Qf,Qb,Qe,Qd,Qc,Qk,Qm];rfl,?_⟩;refine Qh 38 (some 244) (Qg 39 549755813887) rfl rfl HT_.out (by kernel_rfl) (fun _ _ _ h=>h) ⟨.inl ⟨by rfl,fun w'=>by go_simp;with_reducible rfl⟩,by simp only [Qf,Qb,Qe,Qd,Qc,Qk,Qm];rfl,?_⟩;refine Oz (Ga HT_.out (by kernel_rfl)) ?_
                try go_wp2
                go_ret
                exact ⟨by first|rfl|(simp [QC,QD]<;>rfl)|(simp only [← OE,← OG];first|rfl|(simp [QC,QD]<;>rfl))|(simp [*,QC,QD]<;>rfl),by repeat (first|(with_reducible first|exact HB.out|apply Q2|apply Q1|apply Q4)|exact HB.out)⟩
               as_aux_lemma =>
               rw [if_neg c92] at H;have c92b0:decide (((Qo ZM Qz).f1)<((Qo Yj Qz).f1))=false:=decide_eq_false c92;clear c92;have H':=Q0.mk H;clear H;obtain ⟨qFF,qFY,qBY⟩:=Kd.V_slice HO_7.out;subst qBY
               try go_wp2
               have n0_:=Q0.mk (Kd.V_drew HO_7.out);have n1_:=Q0.mk (Kd.R_drew HO_9.out);have n2_:=Q0.mk (Kd.V_drew HO_17.out);have n3_:=Q0.mk (Q4 HB.out);clear HO_7 HO_9 HO_17 HB;have HO_7:=n0_;have HO_9:=n1_;have HO_17:=n2_;have HB:=n3_;clear n0_ n1_ n2_ n3_;have Xz:0≤(Qz:Int):=of_decide_eq_true (by first|(with_reducible assumption)|assumption);have XD:Qz<(Yj.length:Int):=of_decide_eq_true (by first|(with_reducible assumption)|assumption);obtain ⟨JE,qhm,O0,O1⟩:=ZD (Kd.V_reads' HO_7.out).2.2 Qz Xz XD;cases qhm;replace Xz:=eq_true Xz;replace XD:=eq_true XD;obtain ⟨qCR,qDw,qpQ⟩:=Kd.R_slice HO_9.out
               (first|subst qpQ|(injection qpQ with f1_ f2_ f3_;have f4_:=f1_.symm;have f5_:=f3_.symm;clear f1_ f2_ f3_;subst f4_;subst f5_))
               have XA:0≤(Qz:Int):=of_decide_eq_true (by first|(with_reducible assumption)|assumption);have XE:Qz<(Z2.length:Int):=of_decide_eq_true (by first|(with_reducible assumption)|assumption);obtain ⟨qcV,qhn,O2⟩:=Kd.at_int (Kd.R_reads' HO_9.out).2.2 Qz XA XE;cases qhn;replace XA:=eq_true XA;replace XE:=eq_true XE;have qdc:0≤(Qz:Int):=of_decide_eq_true (by first|(with_reducible assumption)|assumption);have qdh:Qz<(ZM.length:Int):=of_decide_eq_true (by first|(with_reducible assumption)|assumption);obtain ⟨qC4,qDJ,qs2⟩:=Kd.V_slice HO_17.out
               (first|subst qs2|skip)
               obtain ⟨KS,qly,UC,UD⟩:=ZD (Kd.V_reads' HO_17.out).2.2 Qz qdc qdh;cases qly;replace qdc:=eq_true qdc;replace qdh:=eq_true qdh;have qdd:0≤(Qz:Int):=of_decide_eq_true (by first|(with_reducible assumption)|assumption);have qdi:Qz<(Yj.length:Int):=of_decide_eq_true (by first|(with_reducible assumption)|assumption);obtain ⟨qfN,qlz,UE,UF⟩:=ZD (Kd.V_reads' HO_7.out).2.2 Qz qdd qdi;obtain rfl:JE=qfN:=(by injection qlz);replace qdd:=eq_true qdd;replace qdi:=eq_true qdi;have qhP:0≤(Qz:Int):=of_decide_eq_true (by first|(with_reducible assumption)|assumption);have qh4:Qz<(ZM.length:Int):=of_decide_eq_true (by first|(with_reducible assumption)|assumption);obtain ⟨qll,qqC,qaQ,qaR⟩:=ZD (Kd.V_reads' HO_17.out).2.2 Qz qhP qh4;obtain rfl:KS=qll:=(by injection qqC);replace qhP:=eq_true qhP;replace qh4:=eq_true qh4;have qhQ:0≤(Qz:Int):=of_decide_eq_true (by first|(with_reducible assumption)|assumption);have qh5:Qz<(Yj.length:Int):=of_decide_eq_true (by first|(with_reducible assumption)|assumption);obtain ⟨qlm,qqD,qaS,qaT⟩:=ZD (Kd.V_reads' HO_7.out).2.2 Qz qhQ qh5;obtain rfl:JE=qlm:=(by injection qqD);replace qhQ:=eq_true qhQ;replace qh5:=eq_true qh5;refine GU (n:=39) (S:=fun w'=>w'.cell? (JE.add ((Qz).toNat*2))=some (.int .i64 ((Qo Yj Qz).f0))∧w'.cell? ⟨(JE.add ((Qz).toNat*2)).block,(JE.add ((Qz).toNat*2)).off+1,none⟩=some (.int .i64 ((Qo Yj Qz).f1))∧w'.cell? (qcV.add (Qz).toNat)=some (.int .i64 (rd Z2 Qz))∧w'.cell? (KS.add ((Qz).toNat*2))=some (.int .i64 ((Qo ZM Qz).f0))∧w'.cell? ⟨(KS.add ((Qz).toNat*2)).block,(KS.add ((Qz).toNat*2)).off+1,none⟩=some (.int .i64 ((Qo ZM Qz).f1))∧w'.cell? (JE.add ((Qz).toNat*2))=some (.int .i64 ((Qo Yj Qz).f0))∧w'.cell? ⟨(JE.add ((Qz).toNat*2)).block,(JE.add ((Qz).toNat*2)).off+1,none⟩=some (.int .i64 ((Qo Yj Qz).f1))∧w'.cell? (KS.add ((Qz).toNat*2))=some (.int .i64 ((Qo ZM Qz).f0))∧w'.cell? ⟨(KS.add ((Qz).toNat*2)).block,(KS.add ((Qz).toNat*2)).off+1,none⟩=some (.int .i64 ((Qo ZM Qz).f1))∧w'.cell? (JE.add ((Qz).toNat*2))=some (.int .i64 ((Qo Yj Qz).f0))∧w'.cell? ⟨(JE.add ((Qz).toNat*2)).block,(JE.add ((Qz).toNat*2)).off+1,none⟩=some (.int .i64 ((Qo Yj Qz).f1))) (ds:=[]) (Qg 39 0) (by kernel_rfl) rfl rfl ⟨O0,O1,O2,UC,UD,UE,UF,qaQ,qaR,qaS,qaT⟩ (fun hHeld => ?_);refine Jn Q6.tab26 Q6.bits26 (fun HT_ HW_ => ?_)
               generalize wr.drew=w99 at HO_7 HO_9 HO_17 HB O0 O1 O2 UC UD UE UF qaQ qaR qaS qaT hHeld ⊢
               refine Qh 0 (some 206) (Qg 39 1) rfl rfl HT_.out (by kernel_rfl) (fun _ _ _ h=>h) ⟨.inl ⟨by rfl,fun w'=>by go_simp;with_reducible rfl⟩,by simp only [Qf,Qb,Qe,Qd,Qc,Qk,Qm];rfl,?_⟩;refine Qh 1 (some 207) (Qg 39 3) rfl rfl HT_.out (by kernel_rfl) (fun _ _ _ h=>h) ⟨.inl ⟨by rfl,fun w'=>by go_simp;with_reducible rfl⟩,by simp only [Qf,Qb,Qe,Qd,Qc,Qk,Qm];rfl,?_⟩;refine Qh 2 (some 208) (Qg 39 7) rfl rfl HT_.out (by kernel_rfl) (fun _ _ _ h=>h) ⟨.inl ⟨by rfl,fun w'=>by go_simp;with_reducible rfl⟩,by simp only [Qf,Qb,Qe,Qd,Qc,Qk,Qm];rfl,?_⟩;refine Qh 3 (some 209) (Qg 39 15) rfl rfl HT_.out (by kernel_rfl) (fun _ _ _ h=>h) ⟨.inl ⟨by rfl,fun w'=>by go_simp;with_reducible rfl⟩,by simp only [Qf,Qb,Qe,Qd,Qc,Qk,Qm];rfl,?_⟩;refine Qh 4 (some 210) (Qg 39 31) rfl rfl HT_.out (by kernel_rfl) (fun _ _ _ h=>h) ⟨.inl ⟨by rfl,fun w'=>by go_simp;with_reducible rfl⟩,by simp only [Qf,Qb,Qe,Qd,Qc,Qk,Qm];rfl,?_⟩;refine Qh 6 (some 212) (Qg 39 95) rfl rfl HT_.out (by kernel_rfl) (fun _ _ _ h=>h) ⟨.inl ⟨by rfl,fun w'=>by go_simp;with_reducible rfl⟩,by simp only [Qf,Qb,Qe,Qd,Qc,Qk,Qm];rfl,?_⟩;refine Qh 7 (some 213) (Qg 39 223) rfl rfl HT_.out (by kernel_rfl) (fun _ _ _ h=>h) ⟨.inl ⟨by rfl,fun w'=>by go_simp;with_reducible rfl⟩,by simp only [Qf,Qb,Qe,Qd,Qc,Qk,Qm];rfl,?_⟩;refine Qh 8 (some 214) (Qg 39 479) rfl rfl HT_.out (by kernel_rfl) (fun _ _ _ h=>h) ⟨.inl ⟨by rfl,fun w'=>by go_simp;with_reducible rfl⟩,by simp only [Qf,Qb,Qe,Qd,Qc,Qk,Qm];rfl,?_⟩;refine Yn 5 (some 211) (Qg 39 511) rfl rfl (Yo HT_.out HW_.out (by kernel_rfl)) (fun _ _ _ h=>h) hHeld ⟨.inl ⟨by rfl,by rintro w' ⟨s0,s1,s2,s3,s4,s5,s6,s7,s8,s9,s10⟩;go_simp;with_reducible rfl⟩,by simp only [Qf,Qb,Qe,Qd,Qc,Qk,Qm];rfl,?_⟩;refine Yn 9 (some 215) (Qg 39 1023) rfl rfl (Yo HT_.out HW_.out (by kernel_rfl)) (fun _ _ _ h=>h) hHeld ⟨.inl ⟨by rfl,by rintro w' ⟨s0,s1,s2,s3,s4,s5,s6,s7,s8,s9,s10⟩;go_simp;with_reducible rfl⟩,by simp only [Qf,Qb,Qe,Qd,Qc,Qk,Qm];rfl,?_⟩;refine one_ (i:=10) (N:=some 216) (Qg 39 2047) rfl rfl (Gf HT_.out (by kernel_rfl)) (by decide) (fun K hK => ?_);refine Wg Try.func44 (by kernel_rfl) rfl #[.agg #[.int .i64 ((Qo Yj Qz).f0),.int .i64 ((Qo Yj Qz).f1)],.int .i64 (rd Z2 Qz)] (by rfl) rfl rfl (by (try simp only [List.map_toArray,List.map_cons,List.map_nil]);first|done|rfl|(simp only [List.length_drop,List.length_take];rfl)) ?_
               with_reducible refine (ZF.calls ((Qo Yj Qz).f0) ((Qo Yj Qz).f1) (rd Z2 Qz) true _ A83.out).mono ?_
               rintro e qHr ⟨rfl,hb⟩;have HS0_:=(hb.cell (World.block_lt_of_cell? _ _ (hHeld.1))).trans (hHeld.1);have HS1_:=(hb.cell (World.block_lt_of_cell? _ _ (hHeld.2.1))).trans (hHeld.2.1);have HS2_:=(hb.cell (World.block_lt_of_cell? _ _ (hHeld.2.2.1))).trans (hHeld.2.2.1);have HS3_:=(hb.cell (World.block_lt_of_cell? _ _ (hHeld.2.2.2.1))).trans (hHeld.2.2.2.1);have HS4_:=(hb.cell (World.block_lt_of_cell? _ _ (hHeld.2.2.2.2.1))).trans (hHeld.2.2.2.2.1);have HS5_:=(hb.cell (World.block_lt_of_cell? _ _ (hHeld.2.2.2.2.2.1))).trans (hHeld.2.2.2.2.2.1);have HS6_:=(hb.cell (World.block_lt_of_cell? _ _ (hHeld.2.2.2.2.2.2.1))).trans (hHeld.2.2.2.2.2.2.1);have HS7_:=(hb.cell (World.block_lt_of_cell? _ _ (hHeld.2.2.2.2.2.2.2.1))).trans (hHeld.2.2.2.2.2.2.2.1);have HS8_:=(hb.cell (World.block_lt_of_cell? _ _ (hHeld.2.2.2.2.2.2.2.2.1))).trans (hHeld.2.2.2.2.2.2.2.2.1);have HS9_:=(hb.cell (World.block_lt_of_cell? _ _ (hHeld.2.2.2.2.2.2.2.2.2.1))).trans (hHeld.2.2.2.2.2.2.2.2.2.1);have HS10_:=(hb.cell (World.block_lt_of_cell? _ _ (hHeld.2.2.2.2.2.2.2.2.2.2))).trans (hHeld.2.2.2.2.2.2.2.2.2.2);refine ⟨_,rfl,?_⟩;have n0_:=Q0.mk (Kd.V_below (by (with_reducible repeat (first|apply Kd.V_alloc|apply Kd.V_drewN|apply Kd.V_drew));exact HO_7.out) hb);have n1_:=Q0.mk (Kd.R_below (by (with_reducible repeat (first|apply Kd.R_alloc|apply Kd.R_drewN|apply Kd.R_drew));exact HO_9.out) hb);have n2_:=Q0.mk (Kd.V_below (by (with_reducible repeat (first|apply Kd.V_alloc|apply Kd.V_drewN|apply Kd.V_drew));exact HO_17.out) hb);have n3_:=Q0.mk (Qv (by repeat (first|(with_reducible first|exact HB.out|apply Q2|apply Q1|apply Q4)|exact HB.out)) hb);clear HO_7 HO_9 HO_17 HB;have HO_7:=n0_;have HO_9:=n1_;have HO_17:=n2_;have HB:=n3_;clear n0_ n1_ n2_ n3_
               (try clear hb)
               (try clear hb2)
               (try clear hk)
               (try clear hi)
               obtain ⟨qCS,qDx,qpR⟩:=Kd.V_slice HO_17.out
               (first|subst qpR|(injection qpR with f1_ f2_ f3_;have f4_:=f1_.symm;have f5_:=f3_.symm;clear f1_ f2_ f3_;subst f4_;subst f5_))
               refine hK.out _ _ ⟨HS0_,HS1_,HS2_,HS3_,HS4_,HS5_,HS6_,HS7_,HS8_,HS9_,HS10_⟩ (fun hHeld => ?_);clear hK K;refine G9 (a':=?_) ?_ ?_;rotate_left
               ·
                show Act.put _ (some 216) _=_
                simp only [Qf,Qb,Qe,Qd,Qc,Qk,Qm];rfl
               refine Qh 11 (some 217) (Qg 39 4095) rfl rfl HT_.out (by kernel_rfl) (fun _ _ _ h=>h) ⟨.inl ⟨by rfl,fun w'=>by go_simp;with_reducible rfl⟩,by simp only [Qf,Qb,Qe,Qd,Qc,Qk,Qm];rfl,?_⟩;refine Qh 12 (some 218) (Qg 39 8191) rfl rfl HT_.out (by kernel_rfl) (fun _ _ _ h=>h) ⟨.inl ⟨by rfl,fun w'=>by go_simp;with_reducible rfl⟩,by simp only [Qf,Qb,Qe,Qd,Qc,Qk,Qm];rfl,?_⟩;refine Qh 13 (some 219) (Qg 39 16383) rfl rfl HT_.out (by kernel_rfl) (fun _ _ _ h=>h) ⟨.inl ⟨by rfl,fun w'=>by go_simp;with_reducible rfl⟩,by simp only [Qf,Qb,Qe,Qd,Qc,Qk,Qm];rfl,?_⟩;refine Qh 14 (some 220) (Qg 39 32767) rfl rfl HT_.out (by kernel_rfl) (fun _ _ _ h=>h) ⟨.inl ⟨by rfl,fun w'=>by go_simp;with_reducible rfl⟩,by simp only [Qf,Qb,Qe,Qd,Qc,Qk,Qm];rfl,?_⟩;refine Qh 15 (some 221) (Qg 39 65535) rfl rfl HT_.out (by kernel_rfl) (fun _ _ _ h=>h) ⟨.inl ⟨by rfl,fun w'=>by go_simp;with_reducible rfl⟩,by simp only [Qf,Qb,Qe,Qd,Qc,Qk,Qm];rfl,?_⟩;refine Qh 16 (some 222) (Qg 39 131071) rfl rfl HT_.out (by kernel_rfl) (fun _ _ _ h=>h) ⟨.inl ⟨by rfl,fun w'=>by go_simp;with_reducible rfl⟩,by simp only [Qf,Qb,Qe,Qd,Qc,Qk,Qm];rfl,?_⟩;refine Qh 17 (some 223) (Qg 39 262143) rfl rfl HT_.out (by kernel_rfl) (fun _ _ _ h=>h) ⟨.inl ⟨by rfl,fun w'=>by go_simp;with_reducible rfl⟩,by simp only [Qf,Qb,Qe,Qd,Qc,Qk,Qm];rfl,?_⟩;refine Qh 19 (some 225) (Qg 39 786431) rfl rfl HT_.out (by kernel_rfl) (fun _ _ _ h=>h) ⟨.inl ⟨by rfl,fun w'=>by go_simp;with_reducible rfl⟩,by simp only [Qf,Qb,Qe,Qd,Qc,Qk,Qm];rfl,?_⟩;refine Qh 20 (some 226) (Qg 39 1835007) rfl rfl HT_.out (by kernel_rfl) (fun _ _ _ h=>h) ⟨.inl ⟨by rfl,fun w'=>by go_simp;with_reducible rfl⟩,by simp only [Qf,Qb,Qe,Qd,Qc,Qk,Qm];rfl,?_⟩;refine Qh 21 (some 227) (Qg 39 3932159) rfl rfl HT_.out (by kernel_rfl) (fun _ _ _ h=>h) ⟨.inl ⟨by rfl,fun w'=>by go_simp;with_reducible rfl⟩,by simp only [Qf,Qb,Qe,Qd,Qc,Qk,Qm];rfl,?_⟩;refine Qh 22 (some 228) (Qg 39 8126463) rfl rfl HT_.out (by kernel_rfl) (fun _ _ _ h=>h) ⟨.inl ⟨by rfl,fun w'=>by go_simp;with_reducible rfl⟩,by simp only [Qf,Qb,Qe,Qd,Qc,Qk,Qm];rfl,?_⟩;refine Yn 18 (some 224) (Qg 39 8388607) rfl rfl (Yo HT_.out HW_.out (by kernel_rfl)) (fun _ _ _ h=>h) hHeld ⟨.inl ⟨by rfl,by rintro w' ⟨s0,s1,s2,s3,s4,s5,s6,s7,s8,s9,s10⟩;go_simp;with_reducible rfl⟩,by simp only [Qf,Qb,Qe,Qd,Qc,Qk,Qm];rfl,?_⟩;refine Yn 23 (some 229) (Qg 39 16777215) rfl rfl (Yo HT_.out HW_.out (by kernel_rfl)) (fun _ _ _ h=>h) hHeld ⟨.inl ⟨by rfl,by rintro w' ⟨s0,s1,s2,s3,s4,s5,s6,s7,s8,s9,s10⟩;go_simp;with_reducible rfl⟩,by simp only [Qf,Qb,Qe,Qd,Qc,Qk,Qm];rfl,?_⟩;refine Qh 24 (some 230) (Qg 39 33554431) rfl rfl HT_.out (by kernel_rfl) (fun _ _ _ h=>h) ⟨.inl ⟨by rfl,fun w'=>by go_simp;with_reducible rfl⟩,by simp only [Qf,Qb,Qe,Qd,Qc,Qk,Qm];rfl,?_⟩;refine Qh 25 (some 231) (Qg 39 67108863) rfl rfl HT_.out (by kernel_rfl) (fun _ _ _ h=>h) ⟨.inl ⟨by rfl,fun w'=>by go_simp;with_reducible rfl⟩,by simp only [Qf,Qb,Qe,Qd,Qc,Qk,Qm];rfl,?_⟩;refine Qh 26 (some 232) (Qg 39 134217727) rfl rfl HT_.out (by kernel_rfl) (fun _ _ _ h=>h) ⟨.inl ⟨by rfl,fun w'=>by go_simp;with_reducible rfl⟩,by simp only [Qf,Qb,Qe,Qd,Qc,Qk,Qm];rfl,?_⟩;refine Qh 27 (some 233) (Qg 39 268435455) rfl rfl HT_.out (by kernel_rfl) (fun _ _ _ h=>h) ⟨.inl ⟨by rfl,fun w'=>by go_simp;with_reducible rfl⟩,by simp only [Qf,Qb,Qe,Qd,Qc,Qk,Qm];rfl,?_⟩;refine Qh 28 (some 234) (Qg 39 536870911) rfl rfl HT_.out (by kernel_rfl) (fun _ _ _ h=>h) ⟨.inl ⟨by rfl,fun w'=>by go_simp;with_reducible rfl⟩,by simp only [Qf,Qb,Qe,Qd,Qc,Qk,Qm];rfl,?_⟩;refine Qh 29 (some 235) (Qg 39 1073741823) rfl rfl HT_.out (by kernel_rfl) (fun _ _ _ h=>h) ⟨.inl ⟨by rfl,fun w'=>by go_simp;with_reducible rfl⟩,by simp only [Qf,Qb,Qe,Qd,Qc,Qk,Qm];rfl,?_⟩;refine Qh 30 (some 236) (Qg 39 2147483647) rfl rfl HT_.out (by kernel_rfl) (fun _ _ _ h=>h) ⟨.inl ⟨by rfl,fun w'=>by go_simp;with_reducible rfl⟩,by simp only [Qf,Qb,Qe,Qd,Qc,Qk,Qm];rfl,?_⟩;refine Qh 32 (some 238) (Qg 39 6442450943) rfl rfl HT_.out (by kernel_rfl) (fun _ _ _ h=>h) ⟨.inl ⟨by rfl,fun w'=>by go_simp;with_reducible rfl⟩,by simp only [Qf,Qb,Qe,Qd,Qc,Qk,Qm];rfl,?_⟩;refine Qh 33 (some 239) (Qg 39 15032385535) rfl rfl HT_.out (by kernel_rfl) (fun _ _ _ h=>h) ⟨.inl ⟨by rfl,fun w'=>by go_simp;with_reducible rfl⟩,by simp only [Qf,Qb,Qe,Qd,Qc,Qk,Qm];rfl,?_⟩;refine Qh 34 (some 240) (Qg 39 32212254719) rfl rfl HT_.out (by kernel_rfl) (fun _ _ _ h=>h) ⟨.inl ⟨by rfl,fun w'=>by go_simp;with_reducible rfl⟩,by simp only [Qf,Qb,Qe,Qd,Qc,Qk,Qm];rfl,?_⟩;refine Qh 35 (some 241) (Qg 39 66571993087) rfl rfl HT_.out (by kernel_rfl) (fun _ _ _ h=>h) ⟨.inl ⟨by rfl,fun w'=>by go_simp;with_reducible rfl⟩,by simp only [Qf,Qb,Qe,Qd,Qc,Qk,Qm];rfl,?_⟩;refine Yn 31 (some 237) (Qg 39 68719476735) rfl rfl (Yo HT_.out HW_.out (by kernel_rfl)) (fun _ _ _ h=>h) hHeld ⟨.inl ⟨by rfl,by rintro w' ⟨s0,s1,s2,s3,s4,s5,s6,s7,s8,s9,s10⟩;go_simp;with_reducible rfl⟩,by simp only [Qf,Qb,Qe,Qd,Qc,Qk,Qm];rfl,?_⟩;refine Yn 36 (some 242) (Qg 39 137438953471) rfl rfl (Yo HT_.out HW_.out (by kernel_rfl)) (fun _ _ _ h=>h) hHeld ⟨.inl ⟨by rfl,by rintro w' ⟨s0,s1,s2,s3,s4,s5,s6,s7,s8,s9,s10⟩;go_simp;with_reducible rfl⟩,by simp only [Qf,Qb,Qe,Qd,Qc,Qk,Qm];rfl,?_⟩;refine Qh 37 (some 243) (Qg 39 274877906943) rfl rfl HT_.out (by kernel_rfl) (fun _ _ _ h=>h) ⟨.inl ⟨by rfl,fun w'=>by go_simp;with_reducible rfl⟩,by simp only [Qf,Qb,Qe,Qd,Qc,Qk,Qm];rfl,?_⟩;refine Qh 38 (some 244) (Qg 39 549755813887) rfl rfl HT_.out (by kernel_rfl) (fun _ _ _ h=>h) ⟨.inl ⟨by rfl,fun w'=>by go_simp;with_reducible rfl⟩,by simp only [Qf,Qb,Qe,Qd,Qc,Qk,Qm];rfl,?_⟩;refine Oz (Ga HT_.out (by kernel_rfl)) ?_
               try go_wp2
               go_roundg k5
               case measure=>have:=HJ4.out;have:=HK2.out;have:=qfK.out;have:=qmX.out;have:=HK5.out;omega
               case rel=>exact ⟨(wrap64 (Qz+1)),(by first|rfl|(simp;done)|(simp [*];done)),H',⟨by have:=HJ4.out;have:=HK2.out;have:=qfK.out;have:=qmX.out;have:=HK5.out;omega⟩,⟨by (with_reducible repeat (first|apply Kd.V_alloc|apply Kd.V_drewN|apply Kd.V_drew));exact HO_7.out⟩,⟨by (with_reducible repeat (first|apply Kd.R_alloc|apply Kd.R_drewN|apply Kd.R_drew));exact HO_9.out⟩,⟨by (with_reducible repeat (first|apply Kd.V_alloc|apply Kd.V_drewN|apply Kd.V_drew));exact HO_17.out⟩,⟨by repeat (first|(with_reducible first|exact HB.out|apply Q2|apply Q1|apply Q4)|exact HB.out)⟩⟩
              rw [if_neg c85] at H
              exact absurd H (by simp)
             as_aux_lemma =>
             replace c84:=Bool.eq_false_iff.mpr c84;subst c84
             have H1:(some false)=some r:=by rw [if_neg (show ¬ (false=true) by decide)] at H;exact H
             clear H;have H:=H1;clear H1;obtain rfl:=Option.some.inj H;obtain ⟨qCT,qDy,qsR⟩:=Kd.V_slice HO_7.out;subst qsR
             try go_wp2
             have n0_:=Q0.mk (Kd.V_drew HO_7.out);have n1_:=Q0.mk (Kd.R_drew HO_9.out);have n2_:=Q0.mk (Kd.V_drew HO_17.out);have n3_:=Q0.mk (Q4 HB.out);clear HO_7 HO_9 HO_17 HB;have HO_7:=n0_;have HO_9:=n1_;have HO_17:=n2_;have HB:=n3_;clear n0_ n1_ n2_ n3_;have Xz:0≤(Qz:Int):=of_decide_eq_true (by first|(with_reducible assumption)|assumption);have XD:Qz<(Yj.length:Int):=of_decide_eq_true (by first|(with_reducible assumption)|assumption);obtain ⟨JE,qhm,O0,O1⟩:=ZD (Kd.V_reads' HO_7.out).2.2 Qz Xz XD;cases qhm;replace Xz:=eq_true Xz;replace XD:=eq_true XD;obtain ⟨qCU,qDz,qpS⟩:=Kd.R_slice HO_9.out
             (first|subst qpS|(injection qpS with f1_ f2_ f3_;have f4_:=f1_.symm;have f5_:=f3_.symm;clear f1_ f2_ f3_;subst f4_;subst f5_))
             have XA:0≤(Qz:Int):=of_decide_eq_true (by first|(with_reducible assumption)|assumption);have XE:Qz<(Z2.length:Int):=of_decide_eq_true (by first|(with_reducible assumption)|assumption);obtain ⟨qcV,qhn,O2⟩:=Kd.at_int (Kd.R_reads' HO_9.out).2.2 Qz XA XE;cases qhn;replace XA:=eq_true XA;replace XE:=eq_true XE;refine GU (n:=39) (S:=fun w'=>w'.cell? (JE.add ((Qz).toNat*2))=some (.int .i64 ((Qo Yj Qz).f0))∧w'.cell? ⟨(JE.add ((Qz).toNat*2)).block,(JE.add ((Qz).toNat*2)).off+1,none⟩=some (.int .i64 ((Qo Yj Qz).f1))∧w'.cell? (qcV.add (Qz).toNat)=some (.int .i64 (rd Z2 Qz))) (ds:=[]) (Qg 39 0) (by kernel_rfl) rfl rfl ⟨O0,O1,O2⟩ (fun hHeld => ?_);refine Jn Q6.tab26 Q6.bits26 (fun HT_ HW_ => ?_)
             generalize wr.drew=qHs at HO_7 HO_9 HO_17 HB O0 O1 O2 hHeld ⊢
             refine Qh 0 (some 206) (Qg 39 1) rfl rfl HT_.out (by kernel_rfl) (fun _ _ _ h=>h) ⟨.inl ⟨by rfl,fun w'=>by go_simp;with_reducible rfl⟩,by simp only [Qf,Qb,Qe,Qd,Qc,Qk,Qm];rfl,?_⟩;refine Qh 1 (some 207) (Qg 39 3) rfl rfl HT_.out (by kernel_rfl) (fun _ _ _ h=>h) ⟨.inl ⟨by rfl,fun w'=>by go_simp;with_reducible rfl⟩,by simp only [Qf,Qb,Qe,Qd,Qc,Qk,Qm];rfl,?_⟩;refine Qh 2 (some 208) (Qg 39 7) rfl rfl HT_.out (by kernel_rfl) (fun _ _ _ h=>h) ⟨.inl ⟨by rfl,fun w'=>by go_simp;with_reducible rfl⟩,by simp only [Qf,Qb,Qe,Qd,Qc,Qk,Qm];rfl,?_⟩;refine Qh 3 (some 209) (Qg 39 15) rfl rfl HT_.out (by kernel_rfl) (fun _ _ _ h=>h) ⟨.inl ⟨by rfl,fun w'=>by go_simp;with_reducible rfl⟩,by simp only [Qf,Qb,Qe,Qd,Qc,Qk,Qm];rfl,?_⟩;refine Qh 4 (some 210) (Qg 39 31) rfl rfl HT_.out (by kernel_rfl) (fun _ _ _ h=>h) ⟨.inl ⟨by rfl,fun w'=>by go_simp;with_reducible rfl⟩,by simp only [Qf,Qb,Qe,Qd,Qc,Qk,Qm];rfl,?_⟩;refine Qh 6 (some 212) (Qg 39 95) rfl rfl HT_.out (by kernel_rfl) (fun _ _ _ h=>h) ⟨.inl ⟨by rfl,fun w'=>by go_simp;with_reducible rfl⟩,by simp only [Qf,Qb,Qe,Qd,Qc,Qk,Qm];rfl,?_⟩;refine Qh 7 (some 213) (Qg 39 223) rfl rfl HT_.out (by kernel_rfl) (fun _ _ _ h=>h) ⟨.inl ⟨by rfl,fun w'=>by go_simp;with_reducible rfl⟩,by simp only [Qf,Qb,Qe,Qd,Qc,Qk,Qm];rfl,?_⟩;refine Qh 8 (some 214) (Qg 39 479) rfl rfl HT_.out (by kernel_rfl) (fun _ _ _ h=>h) ⟨.inl ⟨by rfl,fun w'=>by go_simp;with_reducible rfl⟩,by simp only [Qf,Qb,Qe,Qd,Qc,Qk,Qm];rfl,?_⟩;refine Yn 5 (some 211) (Qg 39 511) rfl rfl (Yo HT_.out HW_.out (by kernel_rfl)) (fun _ _ _ h=>h) hHeld ⟨.inl ⟨by rfl,by rintro w' ⟨s0,s1,s2⟩;go_simp;with_reducible rfl⟩,by simp only [Qf,Qb,Qe,Qd,Qc,Qk,Qm];rfl,?_⟩;refine Yn 9 (some 215) (Qg 39 1023) rfl rfl (Yo HT_.out HW_.out (by kernel_rfl)) (fun _ _ _ h=>h) hHeld ⟨.inl ⟨by rfl,by rintro w' ⟨s0,s1,s2⟩;go_simp;with_reducible rfl⟩,by simp only [Qf,Qb,Qe,Qd,Qc,Qk,Qm];rfl,?_⟩;refine one_ (i:=10) (N:=some 216) (Qg 39 2047) rfl rfl (Gf HT_.out (by kernel_rfl)) (by decide) (fun K hK => ?_);refine Wg Try.func44 (by kernel_rfl) rfl #[.agg #[.int .i64 ((Qo Yj Qz).f0),.int .i64 ((Qo Yj Qz).f1)],.int .i64 (rd Z2 Qz)] (by rfl) rfl rfl (by (try simp only [List.map_toArray,List.map_cons,List.map_nil]);first|done|rfl|(simp only [List.length_drop,List.length_take];rfl)) ?_
             with_reducible refine (ZF.calls ((Qo Yj Qz).f0) ((Qo Yj Qz).f1) (rd Z2 Qz) false _ A83.out).mono ?_
             rintro e qHt ⟨rfl,hb⟩;have HS0_:=(hb.cell (World.block_lt_of_cell? _ _ (hHeld.1))).trans (hHeld.1);have HS1_:=(hb.cell (World.block_lt_of_cell? _ _ (hHeld.2.1))).trans (hHeld.2.1);have HS2_:=(hb.cell (World.block_lt_of_cell? _ _ (hHeld.2.2))).trans (hHeld.2.2);refine ⟨_,rfl,?_⟩;have n0_:=Q0.mk (Kd.V_below (by (with_reducible repeat (first|apply Kd.V_alloc|apply Kd.V_drewN|apply Kd.V_drew));exact HO_7.out) hb);have n1_:=Q0.mk (Kd.R_below (by (with_reducible repeat (first|apply Kd.R_alloc|apply Kd.R_drewN|apply Kd.R_drew));exact HO_9.out) hb);have n2_:=Q0.mk (Kd.V_below (by (with_reducible repeat (first|apply Kd.V_alloc|apply Kd.V_drewN|apply Kd.V_drew));exact HO_17.out) hb);have n3_:=Q0.mk (Qv (by repeat (first|(with_reducible first|exact HB.out|apply Q2|apply Q1|apply Q4)|exact HB.out)) hb);clear HO_7 HO_9 HO_17 HB;have HO_7:=n0_;have HO_9:=n1_;have HO_17:=n2_;have HB:=n3_;clear n0_ n1_ n2_ n3_
             (try clear hb)
             (try clear hb2)
             (try clear hk)
             (try clear hi)
             refine hK.out _ _ ⟨HS0_,HS1_,HS2_⟩ (fun hHeld => ?_);clear hK K;refine G9 (a':=?_) ?_ ?_;rotate_left
             ·
              show Act.put _ (some 216) _=_
              simp only [Qf,Qb,Qe,Qd,Qc,Qk,Qm];rfl
             refine Qh 11 (some 217) (Qg 39 4095) rfl rfl HT_.out (by kernel_rfl) (fun _ _ _ h=>h) ⟨.inl ⟨by rfl,fun w'=>by go_simp;with_reducible rfl⟩,by simp only [Qf,Qb,Qe,Qd,Qc,Qk,Qm];rfl,?_⟩;refine Qh 12 (some 218) (Qg 39 8191) rfl rfl HT_.out (by kernel_rfl) (fun _ _ _ h=>h) ⟨.inl ⟨by rfl,fun w'=>by go_simp;with_reducible rfl⟩,by simp only [Qf,Qb,Qe,Qd,Qc,Qk,Qm];rfl,?_⟩;refine Qh 13 (some 219) (Qg 39 16383) rfl rfl HT_.out (by kernel_rfl) (fun _ _ _ h=>h) ⟨.inl ⟨by rfl,fun w'=>by go_simp;with_reducible rfl⟩,by simp only [Qf,Qb,Qe,Qd,Qc,Qk,Qm];rfl,?_⟩;refine Qh 14 (some 220) (Qg 39 32767) rfl rfl HT_.out (by kernel_rfl) (fun _ _ _ h=>h) ⟨.inr ⟨by rfl,rfl⟩,by simp only [Qf,Qb,Qe,Qd,Qc,Qk,Qm];rfl,?_⟩;refine Qh 15 (some 221) (Qg 39 65535) rfl rfl HT_.out (by kernel_rfl) (fun _ _ _ h=>h) ⟨.inr ⟨by rfl,rfl⟩,by simp only [Qf,Qb,Qe,Qd,Qc,Qk,Qm];rfl,?_⟩;refine Qh 16 (some 222) (Qg 39 131071) rfl rfl HT_.out (by kernel_rfl) (fun _ _ _ h=>h) ⟨.inr ⟨by rfl,rfl⟩,by simp only [Qf,Qb,Qe,Qd,Qc,Qk,Qm];rfl,?_⟩;refine Qh 17 (some 223) (Qg 39 262143) rfl rfl HT_.out (by kernel_rfl) (fun _ _ _ h=>h) ⟨.inr ⟨by rfl,rfl⟩,by simp only [Qf,Qb,Qe,Qd,Qc,Qk,Qm];rfl,?_⟩;refine Qh 18 (some 224) (Qg 39 524287) rfl rfl HT_.out (by kernel_rfl) (fun _ _ _ h=>h) ⟨.inr ⟨by rfl,rfl⟩,by simp only [Qf,Qb,Qe,Qd,Qc,Qk,Qm];rfl,?_⟩;refine Qh 19 (some 225) (Qg 39 1048575) rfl rfl HT_.out (by kernel_rfl) (fun _ _ _ h=>h) ⟨.inr ⟨by rfl,rfl⟩,by simp only [Qf,Qb,Qe,Qd,Qc,Qk,Qm];rfl,?_⟩;refine Qh 20 (some 226) (Qg 39 2097151) rfl rfl HT_.out (by kernel_rfl) (fun _ _ _ h=>h) ⟨.inr ⟨by rfl,rfl⟩,by simp only [Qf,Qb,Qe,Qd,Qc,Qk,Qm];rfl,?_⟩;refine Qh 21 (some 227) (Qg 39 4194303) rfl rfl HT_.out (by kernel_rfl) (fun _ _ _ h=>h) ⟨.inr ⟨by rfl,rfl⟩,by simp only [Qf,Qb,Qe,Qd,Qc,Qk,Qm];rfl,?_⟩;refine Qh 22 (some 228) (Qg 39 8388607) rfl rfl HT_.out (by kernel_rfl) (fun _ _ _ h=>h) ⟨.inr ⟨by rfl,rfl⟩,by simp only [Qf,Qb,Qe,Qd,Qc,Qk,Qm];rfl,?_⟩;refine Qh 23 (some 229) (Qg 39 16777215) rfl rfl HT_.out (by kernel_rfl) (fun _ _ _ h=>h) ⟨.inr ⟨by rfl,rfl⟩,by simp only [Qf,Qb,Qe,Qd,Qc,Qk,Qm];rfl,?_⟩;refine Qh 24 (some 230) (Qg 39 33554431) rfl rfl HT_.out (by kernel_rfl) (fun _ _ _ h=>h) ⟨.inr ⟨by rfl,rfl⟩,by simp only [Qf,Qb,Qe,Qd,Qc,Qk,Qm];rfl,?_⟩;refine Qh 25 (some 231) (Qg 39 67108863) rfl rfl HT_.out (by kernel_rfl) (fun _ _ _ h=>h) ⟨.inl ⟨by rfl,fun w'=>by go_simp;with_reducible rfl⟩,by simp only [Qf,Qb,Qe,Qd,Qc,Qk,Qm];rfl,?_⟩;refine Qh 26 (some 232) (Qg 39 134217727) rfl rfl HT_.out (by kernel_rfl) (fun _ _ _ h=>h) ⟨.inl ⟨by rfl,fun w'=>by go_simp;with_reducible rfl⟩,by simp only [Qf,Qb,Qe,Qd,Qc,Qk,Qm];rfl,?_⟩;refine Qh 27 (some 233) (Qg 39 268435455) rfl rfl HT_.out (by kernel_rfl) (fun _ _ _ h=>h) ⟨.inr ⟨by rfl,rfl⟩,by simp only [Qf,Qb,Qe,Qd,Qc,Qk,Qm];rfl,?_⟩;refine Qh 28 (some 234) (Qg 39 536870911) rfl rfl HT_.out (by kernel_rfl) (fun _ _ _ h=>h) ⟨.inr ⟨by rfl,rfl⟩,by simp only [Qf,Qb,Qe,Qd,Qc,Qk,Qm];rfl,?_⟩;refine Qh 29 (some 235) (Qg 39 1073741823) rfl rfl HT_.out (by kernel_rfl) (fun _ _ _ h=>h) ⟨.inr ⟨by rfl,rfl⟩,by simp only [Qf,Qb,Qe,Qd,Qc,Qk,Qm];rfl,?_⟩;refine Qh 30 (some 236) (Qg 39 2147483647) rfl rfl HT_.out (by kernel_rfl) (fun _ _ _ h=>h) ⟨.inr ⟨by rfl,rfl⟩,by simp only [Qf,Qb,Qe,Qd,Qc,Qk,Qm];rfl,?_⟩;refine Qh 31 (some 237) (Qg 39 4294967295) rfl rfl HT_.out (by kernel_rfl) (fun _ _ _ h=>h) ⟨.inr ⟨by rfl,rfl⟩,by simp only [Qf,Qb,Qe,Qd,Qc,Qk,Qm];rfl,?_⟩;refine Qh 32 (some 238) (Qg 39 8589934591) rfl rfl HT_.out (by kernel_rfl) (fun _ _ _ h=>h) ⟨.inr ⟨by rfl,rfl⟩,by simp only [Qf,Qb,Qe,Qd,Qc,Qk,Qm];rfl,?_⟩;refine Qh 33 (some 239) (Qg 39 17179869183) rfl rfl HT_.out (by kernel_rfl) (fun _ _ _ h=>h) ⟨.inr ⟨by rfl,rfl⟩,by simp only [Qf,Qb,Qe,Qd,Qc,Qk,Qm];rfl,?_⟩;refine Qh 34 (some 240) (Qg 39 34359738367) rfl rfl HT_.out (by kernel_rfl) (fun _ _ _ h=>h) ⟨.inr ⟨by rfl,rfl⟩,by simp only [Qf,Qb,Qe,Qd,Qc,Qk,Qm];rfl,?_⟩;refine Qh 35 (some 241) (Qg 39 68719476735) rfl rfl HT_.out (by kernel_rfl) (fun _ _ _ h=>h) ⟨.inr ⟨by rfl,rfl⟩,by simp only [Qf,Qb,Qe,Qd,Qc,Qk,Qm];rfl,?_⟩;refine Qh 36 (some 242) (Qg 39 137438953471) rfl rfl HT_.out (by kernel_rfl) (fun _ _ _ h=>h) ⟨.inr ⟨by rfl,rfl⟩,by simp only [Qf,Qb,Qe,Qd,Qc,Qk,Qm];rfl,?_⟩;refine Qh 37 (some 243) (Qg 39 274877906943) rfl rfl HT_.out (by kernel_rfl) (fun _ _ _ h=>h) ⟨.inr ⟨by rfl,rfl⟩,by simp only [Qf,Qb,Qe,Qd,Qc,Qk,Qm];rfl,?_⟩;refine Qh 38 (some 244) (Qg 39 549755813887) rfl rfl HT_.out (by kernel_rfl) (fun _ _ _ h=>h) ⟨.inl ⟨by rfl,fun w'=>by go_simp;with_reducible rfl⟩,by simp only [Qf,Qb,Qe,Qd,Qc,Qk,Qm];rfl,?_⟩;refine Oz (Ga HT_.out (by kernel_rfl)) ?_
             try go_wp2
             go_ret
             exact ⟨by first|rfl|(simp [QC,QD]<;>rfl)|(simp only [← OE,← OG];first|rfl|(simp [QC,QD]<;>rfl))|(simp [*,QC,QD]<;>rfl),by repeat (first|(with_reducible first|exact HB.out|apply Q2|apply Q1|apply Q4)|exact HB.out)⟩
            rw [if_neg c82] at H
            exact absurd H (by simp)
           rw [if_neg c81] at H
           exact absurd H (by simp)
          as_aux_lemma =>
          replace c80:=Bool.eq_false_iff.mpr c80;subst c80
          have H1:(if 0≤Qz then (if Qz<(ZM.length:Int) then (if ((Qo ZM Qz).f0)>((Qo Yj Qz).f0) then (some false) else (if ((Qo ZM Qz).f1)<((Qo Yj Qz).f1) then (some false) else (Q6.l2 k5 Yj Z2 false ZM (wrap64 (Qz+1))))) else (none)) else (none))=some r:=by rw [if_neg (show ¬ (false=true) by decide)] at H;exact H
          clear H;have H:=H1;clear H1
          by_cases c107:0≤Qz
          ·
           as_aux_lemma =>
           rw [if_pos c107] at H;have c107b0:decide (0≤Qz)=true:=decide_eq_true c107;clear c107
           by_cases qm7:Qz<(ZM.length:Int)
           ·
            as_aux_lemma =>
            rw [if_pos qm7] at H;have c108b0:decide (Qz<(ZM.length:Int))=true:=decide_eq_true qm7;clear qm7
            by_cases c109:((Qo ZM Qz).f0)>((Qo Yj Qz).f0)
            ·
             as_aux_lemma =>
             rw [if_pos c109] at H;have c109b0:decide (((Qo Yj Qz).f0)<((Qo ZM Qz).f0))=true:=decide_eq_true c109;clear c109;obtain rfl:=Option.some.inj H;obtain ⟨qCV,qDA,qsS⟩:=Kd.V_slice HO_7.out;subst qsS
             try go_wp2
             have n0_:=Q0.mk (Kd.V_drew HO_7.out);have n1_:=Q0.mk (Kd.R_drew HO_9.out);have n2_:=Q0.mk (Kd.V_drew HO_17.out);have n3_:=Q0.mk (Q4 HB.out);clear HO_7 HO_9 HO_17 HB;have HO_7:=n0_;have HO_9:=n1_;have HO_17:=n2_;have HB:=n3_;clear n0_ n1_ n2_ n3_;obtain ⟨qCW,qDB,qpT⟩:=Kd.V_slice HO_17.out
             (first|subst qpT|(injection qpT with f1_ f2_ f3_;have f4_:=f1_.symm;have f5_:=f3_.symm;clear f1_ f2_ f3_;subst f4_;subst f5_))
             have qde:0≤(Qz:Int):=of_decide_eq_true (by first|(with_reducible assumption)|assumption);have qdj:Qz<(ZM.length:Int):=of_decide_eq_true (by first|(with_reducible assumption)|assumption);obtain ⟨KT,qlA,UG,UH⟩:=ZD (Kd.V_reads' HO_17.out).2.2 Qz qde qdj;cases qlA;replace qde:=eq_true qde;replace qdj:=eq_true qdj;have qdf:0≤(Qz:Int):=of_decide_eq_true (by first|(with_reducible assumption)|assumption);have qdk:Qz<(Yj.length:Int):=of_decide_eq_true (by first|(with_reducible assumption)|assumption);obtain ⟨KU,qlB,UI,UJ⟩:=ZD (Kd.V_reads' HO_7.out).2.2 Qz qdf qdk;cases qlB;replace qdf:=eq_true qdf;replace qdk:=eq_true qdk;refine GU (n:=39) (S:=fun w'=>w'.cell? (KT.add ((Qz).toNat*2))=some (.int .i64 ((Qo ZM Qz).f0))∧w'.cell? ⟨(KT.add ((Qz).toNat*2)).block,(KT.add ((Qz).toNat*2)).off+1,none⟩=some (.int .i64 ((Qo ZM Qz).f1))∧w'.cell? (KU.add ((Qz).toNat*2))=some (.int .i64 ((Qo Yj Qz).f0))∧w'.cell? ⟨(KU.add ((Qz).toNat*2)).block,(KU.add ((Qz).toNat*2)).off+1,none⟩=some (.int .i64 ((Qo Yj Qz).f1))) (ds:=[]) (Qg 39 0) (by kernel_rfl) rfl rfl ⟨UG,UH,UI,UJ⟩ (fun hHeld => ?_);refine Jn Q6.tab26 Q6.bits26 (fun HT_ HW_ => ?_)
             generalize wr.drew=qHv at HO_7 HO_9 HO_17 HB UG UH UI UJ hHeld ⊢
             refine Qh 0 (some 206) (Qg 39 1) rfl rfl HT_.out (by kernel_rfl) (fun _ _ _ h=>h) ⟨.inl ⟨by rfl,fun w'=>by go_simp;with_reducible rfl⟩,by simp only [Qf,Qb,Qe,Qd,Qc,Qk,Qm];rfl,?_⟩;refine Qh 1 (some 207) (Qg 39 3) rfl rfl HT_.out (by kernel_rfl) (fun _ _ _ h=>h) ⟨.inl ⟨by rfl,fun w'=>by go_simp;with_reducible rfl⟩,by simp only [Qf,Qb,Qe,Qd,Qc,Qk,Qm];rfl,?_⟩;refine Qh 2 (some 208) (Qg 39 7) rfl rfl HT_.out (by kernel_rfl) (fun _ _ _ h=>h) ⟨.inr ⟨by rfl,rfl⟩,by simp only [Qf,Qb,Qe,Qd,Qc,Qk,Qm];rfl,?_⟩;refine Qh 3 (some 209) (Qg 39 15) rfl rfl HT_.out (by kernel_rfl) (fun _ _ _ h=>h) ⟨.inr ⟨by rfl,rfl⟩,by simp only [Qf,Qb,Qe,Qd,Qc,Qk,Qm];rfl,?_⟩;refine Qh 4 (some 210) (Qg 39 31) rfl rfl HT_.out (by kernel_rfl) (fun _ _ _ h=>h) ⟨.inr ⟨by rfl,rfl⟩,by simp only [Qf,Qb,Qe,Qd,Qc,Qk,Qm];rfl,?_⟩;refine Qh 5 (some 211) (Qg 39 63) rfl rfl HT_.out (by kernel_rfl) (fun _ _ _ h=>h) ⟨.inr ⟨by rfl,rfl⟩,by simp only [Qf,Qb,Qe,Qd,Qc,Qk,Qm];rfl,?_⟩;refine Qh 6 (some 212) (Qg 39 127) rfl rfl HT_.out (by kernel_rfl) (fun _ _ _ h=>h) ⟨.inr ⟨by rfl,rfl⟩,by simp only [Qf,Qb,Qe,Qd,Qc,Qk,Qm];rfl,?_⟩;refine Qh 7 (some 213) (Qg 39 255) rfl rfl HT_.out (by kernel_rfl) (fun _ _ _ h=>h) ⟨.inr ⟨by rfl,rfl⟩,by simp only [Qf,Qb,Qe,Qd,Qc,Qk,Qm];rfl,?_⟩;refine Qh 8 (some 214) (Qg 39 511) rfl rfl HT_.out (by kernel_rfl) (fun _ _ _ h=>h) ⟨.inr ⟨by rfl,rfl⟩,by simp only [Qf,Qb,Qe,Qd,Qc,Qk,Qm];rfl,?_⟩;refine Qh 9 (some 215) (Qg 39 1023) rfl rfl HT_.out (by kernel_rfl) (fun _ _ _ h=>h) ⟨.inr ⟨by rfl,rfl⟩,by simp only [Qf,Qb,Qe,Qd,Qc,Qk,Qm];rfl,?_⟩;refine Qh 10 (some 216) (Qg 39 2047) rfl rfl HT_.out (by kernel_rfl) (fun _ _ _ h=>h) ⟨.inr ⟨by rfl,rfl⟩,by simp only [Qf,Qb,Qe,Qd,Qc,Qk,Qm];rfl,?_⟩;refine Qh 11 (some 217) (Qg 39 4095) rfl rfl HT_.out (by kernel_rfl) (fun _ _ _ h=>h) ⟨.inr ⟨by rfl,rfl⟩,by simp only [Qf,Qb,Qe,Qd,Qc,Qk,Qm];rfl,?_⟩;refine Qh 12 (some 218) (Qg 39 8191) rfl rfl HT_.out (by kernel_rfl) (fun _ _ _ h=>h) ⟨.inl ⟨by rfl,fun w'=>by go_simp;with_reducible rfl⟩,by simp only [Qf,Qb,Qe,Qd,Qc,Qk,Qm];rfl,?_⟩;refine Qh 13 (some 219) (Qg 39 16383) rfl rfl HT_.out (by kernel_rfl) (fun _ _ _ h=>h) ⟨.inl ⟨by rfl,fun w'=>by go_simp;with_reducible rfl⟩,by simp only [Qf,Qb,Qe,Qd,Qc,Qk,Qm];rfl,?_⟩;refine Qh 14 (some 220) (Qg 39 32767) rfl rfl HT_.out (by kernel_rfl) (fun _ _ _ h=>h) ⟨.inl ⟨by rfl,fun w'=>by go_simp;with_reducible rfl⟩,by simp only [Qf,Qb,Qe,Qd,Qc,Qk,Qm];rfl,?_⟩;refine Qh 15 (some 221) (Qg 39 65535) rfl rfl HT_.out (by kernel_rfl) (fun _ _ _ h=>h) ⟨.inl ⟨by rfl,fun w'=>by go_simp;with_reducible rfl⟩,by simp only [Qf,Qb,Qe,Qd,Qc,Qk,Qm];rfl,?_⟩;refine Qh 16 (some 222) (Qg 39 131071) rfl rfl HT_.out (by kernel_rfl) (fun _ _ _ h=>h) ⟨.inl ⟨by rfl,fun w'=>by go_simp;with_reducible rfl⟩,by simp only [Qf,Qb,Qe,Qd,Qc,Qk,Qm];rfl,?_⟩;refine Qh 17 (some 223) (Qg 39 262143) rfl rfl HT_.out (by kernel_rfl) (fun _ _ _ h=>h) ⟨.inl ⟨by rfl,fun w'=>by go_simp;with_reducible rfl⟩,by simp only [Qf,Qb,Qe,Qd,Qc,Qk,Qm];rfl,?_⟩;refine Qh 19 (some 225) (Qg 39 786431) rfl rfl HT_.out (by kernel_rfl) (fun _ _ _ h=>h) ⟨.inl ⟨by rfl,fun w'=>by go_simp;with_reducible rfl⟩,by simp only [Qf,Qb,Qe,Qd,Qc,Qk,Qm];rfl,?_⟩;refine Qh 20 (some 226) (Qg 39 1835007) rfl rfl HT_.out (by kernel_rfl) (fun _ _ _ h=>h) ⟨.inl ⟨by rfl,fun w'=>by go_simp;with_reducible rfl⟩,by simp only [Qf,Qb,Qe,Qd,Qc,Qk,Qm];rfl,?_⟩;refine Qh 21 (some 227) (Qg 39 3932159) rfl rfl HT_.out (by kernel_rfl) (fun _ _ _ h=>h) ⟨.inl ⟨by rfl,fun w'=>by go_simp;with_reducible rfl⟩,by simp only [Qf,Qb,Qe,Qd,Qc,Qk,Qm];rfl,?_⟩;refine Qh 22 (some 228) (Qg 39 8126463) rfl rfl HT_.out (by kernel_rfl) (fun _ _ _ h=>h) ⟨.inl ⟨by rfl,fun w'=>by go_simp;with_reducible rfl⟩,by simp only [Qf,Qb,Qe,Qd,Qc,Qk,Qm];rfl,?_⟩;refine Yn 18 (some 224) (Qg 39 8388607) rfl rfl (Yo HT_.out HW_.out (by kernel_rfl)) (fun _ _ _ h=>h) hHeld ⟨.inl ⟨by rfl,by rintro w' ⟨s0,s1,s2,s3⟩;go_simp;with_reducible rfl⟩,by simp only [Qf,Qb,Qe,Qd,Qc,Qk,Qm];rfl,?_⟩;refine Yn 23 (some 229) (Qg 39 16777215) rfl rfl (Yo HT_.out HW_.out (by kernel_rfl)) (fun _ _ _ h=>h) hHeld ⟨.inl ⟨by rfl,by rintro w' ⟨s0,s1,s2,s3⟩;go_simp;with_reducible rfl⟩,by simp only [Qf,Qb,Qe,Qd,Qc,Qk,Qm];rfl,?_⟩;refine Qh 24 (some 230) (Qg 39 33554431) rfl rfl HT_.out (by kernel_rfl) (fun _ _ _ h=>h) ⟨.inl ⟨by rfl,fun w'=>by go_simp;with_reducible rfl⟩,by simp only [Qf,Qb,Qe,Qd,Qc,Qk,Qm];rfl,?_⟩;refine Qh 25 (some 231) (Qg 39 67108863) rfl rfl HT_.out (by kernel_rfl) (fun _ _ _ h=>h) ⟨.inl ⟨by rfl,fun w'=>by go_simp;with_reducible rfl⟩,by simp only [Qf,Qb,Qe,Qd,Qc,Qk,Qm];rfl,?_⟩;refine Qh 26 (some 232) (Qg 39 134217727) rfl rfl HT_.out (by kernel_rfl) (fun _ _ _ h=>h) ⟨.inl ⟨by rfl,fun w'=>by go_simp;with_reducible rfl⟩,by simp only [Qf,Qb,Qe,Qd,Qc,Qk,Qm];rfl,?_⟩;refine Qh 27 (some 233) (Qg 39 268435455) rfl rfl HT_.out (by kernel_rfl) (fun _ _ _ h=>h) ⟨.inr ⟨by rfl,rfl⟩,by simp only [Qf,Qb,Qe,Qd,Qc,Qk,Qm];rfl,?_⟩;refine Qh 28 (some 234) (Qg 39 536870911) rfl rfl HT_.out (by kernel_rfl) (fun _ _ _ h=>h) ⟨.inr ⟨by rfl,rfl⟩,by simp only [Qf,Qb,Qe,Qd,Qc,Qk,Qm];rfl,?_⟩;refine Qh 29 (some 235) (Qg 39 1073741823) rfl rfl HT_.out (by kernel_rfl) (fun _ _ _ h=>h) ⟨.inr ⟨by rfl,rfl⟩,by simp only [Qf,Qb,Qe,Qd,Qc,Qk,Qm];rfl,?_⟩;refine Qh 30 (some 236) (Qg 39 2147483647) rfl rfl HT_.out (by kernel_rfl) (fun _ _ _ h=>h) ⟨.inr ⟨by rfl,rfl⟩,by simp only [Qf,Qb,Qe,Qd,Qc,Qk,Qm];rfl,?_⟩;refine Qh 31 (some 237) (Qg 39 4294967295) rfl rfl HT_.out (by kernel_rfl) (fun _ _ _ h=>h) ⟨.inr ⟨by rfl,rfl⟩,by simp only [Qf,Qb,Qe,Qd,Qc,Qk,Qm];rfl,?_⟩;refine Qh 32 (some 238) (Qg 39 8589934591) rfl rfl HT_.out (by kernel_rfl) (fun _ _ _ h=>h) ⟨.inr ⟨by rfl,rfl⟩,by simp only [Qf,Qb,Qe,Qd,Qc,Qk,Qm];rfl,?_⟩;refine Qh 33 (some 239) (Qg 39 17179869183) rfl rfl HT_.out (by kernel_rfl) (fun _ _ _ h=>h) ⟨.inr ⟨by rfl,rfl⟩,by simp only [Qf,Qb,Qe,Qd,Qc,Qk,Qm];rfl,?_⟩;refine Qh 34 (some 240) (Qg 39 34359738367) rfl rfl HT_.out (by kernel_rfl) (fun _ _ _ h=>h) ⟨.inr ⟨by rfl,rfl⟩,by simp only [Qf,Qb,Qe,Qd,Qc,Qk,Qm];rfl,?_⟩;refine Qh 35 (some 241) (Qg 39 68719476735) rfl rfl HT_.out (by kernel_rfl) (fun _ _ _ h=>h) ⟨.inr ⟨by rfl,rfl⟩,by simp only [Qf,Qb,Qe,Qd,Qc,Qk,Qm];rfl,?_⟩;refine Qh 36 (some 242) (Qg 39 137438953471) rfl rfl HT_.out (by kernel_rfl) (fun _ _ _ h=>h) ⟨.inr ⟨by rfl,rfl⟩,by simp only [Qf,Qb,Qe,Qd,Qc,Qk,Qm];rfl,?_⟩;refine Qh 37 (some 243) (Qg 39 274877906943) rfl rfl HT_.out (by kernel_rfl) (fun _ _ _ h=>h) ⟨.inr ⟨by rfl,rfl⟩,by simp only [Qf,Qb,Qe,Qd,Qc,Qk,Qm];rfl,?_⟩;refine Qh 38 (some 244) (Qg 39 549755813887) rfl rfl HT_.out (by kernel_rfl) (fun _ _ _ h=>h) ⟨.inl ⟨by rfl,fun w'=>by go_simp;with_reducible rfl⟩,by simp only [Qf,Qb,Qe,Qd,Qc,Qk,Qm];rfl,?_⟩;refine Oz (Ga HT_.out (by kernel_rfl)) ?_
             try go_wp2
             go_ret
             exact ⟨by first|rfl|(simp [QC,QD]<;>rfl)|(simp only [← OE,← OG];first|rfl|(simp [QC,QD]<;>rfl))|(simp [*,QC,QD]<;>rfl),by repeat (first|(with_reducible first|exact HB.out|apply Q2|apply Q1|apply Q4)|exact HB.out)⟩
            as_aux_lemma =>
            rw [if_neg c109] at H;have c109b0:decide (((Qo Yj Qz).f0)<((Qo ZM Qz).f0))=false:=decide_eq_false c109;clear c109
            by_cases qj2:((Qo ZM Qz).f1)<((Qo Yj Qz).f1)
            ·
             as_aux_lemma =>
             rw [if_pos qj2] at H;have c113b0:decide (((Qo ZM Qz).f1)<((Qo Yj Qz).f1))=true:=decide_eq_true qj2;clear qj2;obtain rfl:=Option.some.inj H;obtain ⟨qCX,qDC,qsT⟩:=Kd.V_slice HO_7.out;subst qsT
             try go_wp2
             have n0_:=Q0.mk (Kd.V_drew HO_7.out);have n1_:=Q0.mk (Kd.R_drew HO_9.out);have n2_:=Q0.mk (Kd.V_drew HO_17.out);have n3_:=Q0.mk (Q4 HB.out);clear HO_7 HO_9 HO_17 HB;have HO_7:=n0_;have HO_9:=n1_;have HO_17:=n2_;have HB:=n3_;clear n0_ n1_ n2_ n3_;obtain ⟨qCY,qDD,qpU⟩:=Kd.V_slice HO_17.out
             (first|subst qpU|(injection qpU with f1_ f2_ f3_;have f4_:=f1_.symm;have f5_:=f3_.symm;clear f1_ f2_ f3_;subst f4_;subst f5_))
             have qde:0≤(Qz:Int):=of_decide_eq_true (by first|(with_reducible assumption)|assumption);have qdj:Qz<(ZM.length:Int):=of_decide_eq_true (by first|(with_reducible assumption)|assumption);obtain ⟨KT,qlA,UG,UH⟩:=ZD (Kd.V_reads' HO_17.out).2.2 Qz qde qdj;cases qlA;replace qde:=eq_true qde;replace qdj:=eq_true qdj;have qdf:0≤(Qz:Int):=of_decide_eq_true (by first|(with_reducible assumption)|assumption);have qdk:Qz<(Yj.length:Int):=of_decide_eq_true (by first|(with_reducible assumption)|assumption);obtain ⟨KU,qlB,UI,UJ⟩:=ZD (Kd.V_reads' HO_7.out).2.2 Qz qdf qdk;cases qlB;replace qdf:=eq_true qdf;replace qdk:=eq_true qdk;have qhR:0≤(Qz:Int):=of_decide_eq_true (by first|(with_reducible assumption)|assumption);have qh6:Qz<(ZM.length:Int):=of_decide_eq_true (by first|(with_reducible assumption)|assumption);obtain ⟨qln,qqE,qaU,qaV⟩:=ZD (Kd.V_reads' HO_17.out).2.2 Qz qhR qh6;obtain rfl:KT=qln:=(by injection qqE);replace qhR:=eq_true qhR;replace qh6:=eq_true qh6;have qhS:0≤(Qz:Int):=of_decide_eq_true (by first|(with_reducible assumption)|assumption);have qh7:Qz<(Yj.length:Int):=of_decide_eq_true (by first|(with_reducible assumption)|assumption);obtain ⟨qlo,qqF,qaW,qaX⟩:=ZD (Kd.V_reads' HO_7.out).2.2 Qz qhS qh7;obtain rfl:KU=qlo:=(by injection qqF);replace qhS:=eq_true qhS;replace qh7:=eq_true qh7;refine GU (n:=39) (S:=fun w'=>w'.cell? (KT.add ((Qz).toNat*2))=some (.int .i64 ((Qo ZM Qz).f0))∧w'.cell? ⟨(KT.add ((Qz).toNat*2)).block,(KT.add ((Qz).toNat*2)).off+1,none⟩=some (.int .i64 ((Qo ZM Qz).f1))∧w'.cell? (KU.add ((Qz).toNat*2))=some (.int .i64 ((Qo Yj Qz).f0))∧w'.cell? ⟨(KU.add ((Qz).toNat*2)).block,(KU.add ((Qz).toNat*2)).off+1,none⟩=some (.int .i64 ((Qo Yj Qz).f1))∧w'.cell? (KT.add ((Qz).toNat*2))=some (.int .i64 ((Qo ZM Qz).f0))∧w'.cell? ⟨(KT.add ((Qz).toNat*2)).block,(KT.add ((Qz).toNat*2)).off+1,none⟩=some (.int .i64 ((Qo ZM Qz).f1))∧w'.cell? (KU.add ((Qz).toNat*2))=some (.int .i64 ((Qo Yj Qz).f0))∧w'.cell? ⟨(KU.add ((Qz).toNat*2)).block,(KU.add ((Qz).toNat*2)).off+1,none⟩=some (.int .i64 ((Qo Yj Qz).f1))) (ds:=[]) (Qg 39 0) (by kernel_rfl) rfl rfl ⟨UG,UH,UI,UJ,qaU,qaV,qaW,qaX⟩ (fun hHeld => ?_);refine Jn Q6.tab26 Q6.bits26 (fun HT_ HW_ => ?_)
             generalize wr.drew=qHw at HO_7 HO_9 HO_17 HB UG UH UI UJ qaU qaV qaW qaX hHeld ⊢
             refine Qh 0 (some 206) (Qg 39 1) rfl rfl HT_.out (by kernel_rfl) (fun _ _ _ h=>h) ⟨.inl ⟨by rfl,fun w'=>by go_simp;with_reducible rfl⟩,by simp only [Qf,Qb,Qe,Qd,Qc,Qk,Qm];rfl,?_⟩;refine Qh 1 (some 207) (Qg 39 3) rfl rfl HT_.out (by kernel_rfl) (fun _ _ _ h=>h) ⟨.inl ⟨by rfl,fun w'=>by go_simp;with_reducible rfl⟩,by simp only [Qf,Qb,Qe,Qd,Qc,Qk,Qm];rfl,?_⟩;refine Qh 2 (some 208) (Qg 39 7) rfl rfl HT_.out (by kernel_rfl) (fun _ _ _ h=>h) ⟨.inr ⟨by rfl,rfl⟩,by simp only [Qf,Qb,Qe,Qd,Qc,Qk,Qm];rfl,?_⟩;refine Qh 3 (some 209) (Qg 39 15) rfl rfl HT_.out (by kernel_rfl) (fun _ _ _ h=>h) ⟨.inr ⟨by rfl,rfl⟩,by simp only [Qf,Qb,Qe,Qd,Qc,Qk,Qm];rfl,?_⟩;refine Qh 4 (some 210) (Qg 39 31) rfl rfl HT_.out (by kernel_rfl) (fun _ _ _ h=>h) ⟨.inr ⟨by rfl,rfl⟩,by simp only [Qf,Qb,Qe,Qd,Qc,Qk,Qm];rfl,?_⟩;refine Qh 5 (some 211) (Qg 39 63) rfl rfl HT_.out (by kernel_rfl) (fun _ _ _ h=>h) ⟨.inr ⟨by rfl,rfl⟩,by simp only [Qf,Qb,Qe,Qd,Qc,Qk,Qm];rfl,?_⟩;refine Qh 6 (some 212) (Qg 39 127) rfl rfl HT_.out (by kernel_rfl) (fun _ _ _ h=>h) ⟨.inr ⟨by rfl,rfl⟩,by simp only [Qf,Qb,Qe,Qd,Qc,Qk,Qm];rfl,?_⟩;refine Qh 7 (some 213) (Qg 39 255) rfl rfl HT_.out (by kernel_rfl) (fun _ _ _ h=>h) ⟨.inr ⟨by rfl,rfl⟩,by simp only [Qf,Qb,Qe,Qd,Qc,Qk,Qm];rfl,?_⟩;refine Qh 8 (some 214) (Qg 39 511) rfl rfl HT_.out (by kernel_rfl) (fun _ _ _ h=>h) ⟨.inr ⟨by rfl,rfl⟩,by simp only [Qf,Qb,Qe,Qd,Qc,Qk,Qm];rfl,?_⟩;refine Qh 9 (some 215) (Qg 39 1023) rfl rfl HT_.out (by kernel_rfl) (fun _ _ _ h=>h) ⟨.inr ⟨by rfl,rfl⟩,by simp only [Qf,Qb,Qe,Qd,Qc,Qk,Qm];rfl,?_⟩;refine Qh 10 (some 216) (Qg 39 2047) rfl rfl HT_.out (by kernel_rfl) (fun _ _ _ h=>h) ⟨.inr ⟨by rfl,rfl⟩,by simp only [Qf,Qb,Qe,Qd,Qc,Qk,Qm];rfl,?_⟩;refine Qh 11 (some 217) (Qg 39 4095) rfl rfl HT_.out (by kernel_rfl) (fun _ _ _ h=>h) ⟨.inr ⟨by rfl,rfl⟩,by simp only [Qf,Qb,Qe,Qd,Qc,Qk,Qm];rfl,?_⟩;refine Qh 12 (some 218) (Qg 39 8191) rfl rfl HT_.out (by kernel_rfl) (fun _ _ _ h=>h) ⟨.inl ⟨by rfl,fun w'=>by go_simp;with_reducible rfl⟩,by simp only [Qf,Qb,Qe,Qd,Qc,Qk,Qm];rfl,?_⟩;refine Qh 13 (some 219) (Qg 39 16383) rfl rfl HT_.out (by kernel_rfl) (fun _ _ _ h=>h) ⟨.inl ⟨by rfl,fun w'=>by go_simp;with_reducible rfl⟩,by simp only [Qf,Qb,Qe,Qd,Qc,Qk,Qm];rfl,?_⟩;refine Qh 14 (some 220) (Qg 39 32767) rfl rfl HT_.out (by kernel_rfl) (fun _ _ _ h=>h) ⟨.inl ⟨by rfl,fun w'=>by go_simp;with_reducible rfl⟩,by simp only [Qf,Qb,Qe,Qd,Qc,Qk,Qm];rfl,?_⟩;refine Qh 15 (some 221) (Qg 39 65535) rfl rfl HT_.out (by kernel_rfl) (fun _ _ _ h=>h) ⟨.inl ⟨by rfl,fun w'=>by go_simp;with_reducible rfl⟩,by simp only [Qf,Qb,Qe,Qd,Qc,Qk,Qm];rfl,?_⟩;refine Qh 16 (some 222) (Qg 39 131071) rfl rfl HT_.out (by kernel_rfl) (fun _ _ _ h=>h) ⟨.inl ⟨by rfl,fun w'=>by go_simp;with_reducible rfl⟩,by simp only [Qf,Qb,Qe,Qd,Qc,Qk,Qm];rfl,?_⟩;refine Qh 17 (some 223) (Qg 39 262143) rfl rfl HT_.out (by kernel_rfl) (fun _ _ _ h=>h) ⟨.inl ⟨by rfl,fun w'=>by go_simp;with_reducible rfl⟩,by simp only [Qf,Qb,Qe,Qd,Qc,Qk,Qm];rfl,?_⟩;refine Qh 19 (some 225) (Qg 39 786431) rfl rfl HT_.out (by kernel_rfl) (fun _ _ _ h=>h) ⟨.inl ⟨by rfl,fun w'=>by go_simp;with_reducible rfl⟩,by simp only [Qf,Qb,Qe,Qd,Qc,Qk,Qm];rfl,?_⟩;refine Qh 20 (some 226) (Qg 39 1835007) rfl rfl HT_.out (by kernel_rfl) (fun _ _ _ h=>h) ⟨.inl ⟨by rfl,fun w'=>by go_simp;with_reducible rfl⟩,by simp only [Qf,Qb,Qe,Qd,Qc,Qk,Qm];rfl,?_⟩;refine Qh 21 (some 227) (Qg 39 3932159) rfl rfl HT_.out (by kernel_rfl) (fun _ _ _ h=>h) ⟨.inl ⟨by rfl,fun w'=>by go_simp;with_reducible rfl⟩,by simp only [Qf,Qb,Qe,Qd,Qc,Qk,Qm];rfl,?_⟩;refine Qh 22 (some 228) (Qg 39 8126463) rfl rfl HT_.out (by kernel_rfl) (fun _ _ _ h=>h) ⟨.inl ⟨by rfl,fun w'=>by go_simp;with_reducible rfl⟩,by simp only [Qf,Qb,Qe,Qd,Qc,Qk,Qm];rfl,?_⟩;refine Yn 18 (some 224) (Qg 39 8388607) rfl rfl (Yo HT_.out HW_.out (by kernel_rfl)) (fun _ _ _ h=>h) hHeld ⟨.inl ⟨by rfl,by rintro w' ⟨s0,s1,s2,s3,s4,s5,s6,s7⟩;go_simp;with_reducible rfl⟩,by simp only [Qf,Qb,Qe,Qd,Qc,Qk,Qm];rfl,?_⟩;refine Yn 23 (some 229) (Qg 39 16777215) rfl rfl (Yo HT_.out HW_.out (by kernel_rfl)) (fun _ _ _ h=>h) hHeld ⟨.inl ⟨by rfl,by rintro w' ⟨s0,s1,s2,s3,s4,s5,s6,s7⟩;go_simp;with_reducible rfl⟩,by simp only [Qf,Qb,Qe,Qd,Qc,Qk,Qm];rfl,?_⟩;refine Qh 24 (some 230) (Qg 39 33554431) rfl rfl HT_.out (by kernel_rfl) (fun _ _ _ h=>h) ⟨.inl ⟨by rfl,fun w'=>by go_simp;with_reducible rfl⟩,by simp only [Qf,Qb,Qe,Qd,Qc,Qk,Qm];rfl,?_⟩;refine Qh 25 (some 231) (Qg 39 67108863) rfl rfl HT_.out (by kernel_rfl) (fun _ _ _ h=>h) ⟨.inl ⟨by rfl,fun w'=>by go_simp;with_reducible rfl⟩,by simp only [Qf,Qb,Qe,Qd,Qc,Qk,Qm];rfl,?_⟩;refine Qh 26 (some 232) (Qg 39 134217727) rfl rfl HT_.out (by kernel_rfl) (fun _ _ _ h=>h) ⟨.inl ⟨by rfl,fun w'=>by go_simp;with_reducible rfl⟩,by simp only [Qf,Qb,Qe,Qd,Qc,Qk,Qm];rfl,?_⟩;refine Qh 27 (some 233) (Qg 39 268435455) rfl rfl HT_.out (by kernel_rfl) (fun _ _ _ h=>h) ⟨.inl ⟨by rfl,fun w'=>by go_simp;with_reducible rfl⟩,by simp only [Qf,Qb,Qe,Qd,Qc,Qk,Qm];rfl,?_⟩;refine Qh 28 (some 234) (Qg 39 536870911) rfl rfl HT_.out (by kernel_rfl) (fun _ _ _ h=>h) ⟨.inl ⟨by rfl,fun w'=>by go_simp;with_reducible rfl⟩,by simp only [Qf,Qb,Qe,Qd,Qc,Qk,Qm];rfl,?_⟩;refine Qh 29 (some 235) (Qg 39 1073741823) rfl rfl HT_.out (by kernel_rfl) (fun _ _ _ h=>h) ⟨.inl ⟨by rfl,fun w'=>by go_simp;with_reducible rfl⟩,by simp only [Qf,Qb,Qe,Qd,Qc,Qk,Qm];rfl,?_⟩;refine Qh 30 (some 236) (Qg 39 2147483647) rfl rfl HT_.out (by kernel_rfl) (fun _ _ _ h=>h) ⟨.inl ⟨by rfl,fun w'=>by go_simp;with_reducible rfl⟩,by simp only [Qf,Qb,Qe,Qd,Qc,Qk,Qm];rfl,?_⟩;refine Qh 32 (some 238) (Qg 39 6442450943) rfl rfl HT_.out (by kernel_rfl) (fun _ _ _ h=>h) ⟨.inl ⟨by rfl,fun w'=>by go_simp;with_reducible rfl⟩,by simp only [Qf,Qb,Qe,Qd,Qc,Qk,Qm];rfl,?_⟩;refine Qh 33 (some 239) (Qg 39 15032385535) rfl rfl HT_.out (by kernel_rfl) (fun _ _ _ h=>h) ⟨.inl ⟨by rfl,fun w'=>by go_simp;with_reducible rfl⟩,by simp only [Qf,Qb,Qe,Qd,Qc,Qk,Qm];rfl,?_⟩;refine Qh 34 (some 240) (Qg 39 32212254719) rfl rfl HT_.out (by kernel_rfl) (fun _ _ _ h=>h) ⟨.inl ⟨by rfl,fun w'=>by go_simp;with_reducible rfl⟩,by simp only [Qf,Qb,Qe,Qd,Qc,Qk,Qm];rfl,?_⟩;refine Qh 35 (some 241) (Qg 39 66571993087) rfl rfl HT_.out (by kernel_rfl) (fun _ _ _ h=>h) ⟨.inl ⟨by rfl,fun w'=>by go_simp;with_reducible rfl⟩,by simp only [Qf,Qb,Qe,Qd,Qc,Qk,Qm];rfl,?_⟩;refine Yn 31 (some 237) (Qg 39 68719476735) rfl rfl (Yo HT_.out HW_.out (by kernel_rfl)) (fun _ _ _ h=>h) hHeld ⟨.inl ⟨by rfl,by rintro w' ⟨s0,s1,s2,s3,s4,s5,s6,s7⟩;go_simp;with_reducible rfl⟩,by simp only [Qf,Qb,Qe,Qd,Qc,Qk,Qm];rfl,?_⟩;refine Yn 36 (some 242) (Qg 39 137438953471) rfl rfl (Yo HT_.out HW_.out (by kernel_rfl)) (fun _ _ _ h=>h) hHeld ⟨.inl ⟨by rfl,by rintro w' ⟨s0,s1,s2,s3,s4,s5,s6,s7⟩;go_simp;with_reducible rfl⟩,by simp only [Qf,Qb,Qe,Qd,Qc,Qk,Qm];rfl,?_⟩;refine Qh 37 (some 243) (Qg 39 274877906943) rfl rfl HT_.out (by kernel_rfl) (fun _ _ _ h=>h) ⟨.inl ⟨by rfl,fun w'=>by go_simp;with_reducible rfl⟩,by simp only [Qf,Qb,Qe,Qd,Qc,Qk,Qm];rfl,?_⟩;refine Qh 38 (some 244) (Qg 39 549755813887) rfl rfl HT_.out (by kernel_rfl) (fun _ _ _ h=>h) ⟨.inl ⟨by rfl,fun w'=>by go_simp;with_reducible rfl⟩,by simp only [Qf,Qb,Qe,Qd,Qc,Qk,Qm];rfl,?_⟩;refine Oz (Ga HT_.out (by kernel_rfl)) ?_
             try go_wp2
             go_ret
             exact ⟨by first|rfl|(simp [QC,QD]<;>rfl)|(simp only [← OE,← OG];first|rfl|(simp [QC,QD]<;>rfl))|(simp [*,QC,QD]<;>rfl),by repeat (first|(with_reducible first|exact HB.out|apply Q2|apply Q1|apply Q4)|exact HB.out)⟩
            as_aux_lemma =>
            rw [if_neg qj2] at H;have c113b0:decide (((Qo ZM Qz).f1)<((Qo Yj Qz).f1))=false:=decide_eq_false qj2;clear qj2;have H':=Q0.mk H;clear H;obtain ⟨qCZ,qDE,qsU⟩:=Kd.V_slice HO_7.out;subst qsU
            try go_wp2
            have n0_:=Q0.mk (Kd.V_drew HO_7.out);have n1_:=Q0.mk (Kd.R_drew HO_9.out);have n2_:=Q0.mk (Kd.V_drew HO_17.out);have n3_:=Q0.mk (Q4 HB.out);clear HO_7 HO_9 HO_17 HB;have HO_7:=n0_;have HO_9:=n1_;have HO_17:=n2_;have HB:=n3_;clear n0_ n1_ n2_ n3_;obtain ⟨qC0,qDF,qpV⟩:=Kd.V_slice HO_17.out
            (first|subst qpV|(injection qpV with f1_ f2_ f3_;have f4_:=f1_.symm;have f5_:=f3_.symm;clear f1_ f2_ f3_;subst f4_;subst f5_))
            have qde:0≤(Qz:Int):=of_decide_eq_true (by first|(with_reducible assumption)|assumption);have qdj:Qz<(ZM.length:Int):=of_decide_eq_true (by first|(with_reducible assumption)|assumption);obtain ⟨KT,qlA,UG,UH⟩:=ZD (Kd.V_reads' HO_17.out).2.2 Qz qde qdj;cases qlA;replace qde:=eq_true qde;replace qdj:=eq_true qdj;have qdf:0≤(Qz:Int):=of_decide_eq_true (by first|(with_reducible assumption)|assumption);have qdk:Qz<(Yj.length:Int):=of_decide_eq_true (by first|(with_reducible assumption)|assumption);obtain ⟨KU,qlB,UI,UJ⟩:=ZD (Kd.V_reads' HO_7.out).2.2 Qz qdf qdk;cases qlB;replace qdf:=eq_true qdf;replace qdk:=eq_true qdk;have qhR:0≤(Qz:Int):=of_decide_eq_true (by first|(with_reducible assumption)|assumption);have qh6:Qz<(ZM.length:Int):=of_decide_eq_true (by first|(with_reducible assumption)|assumption);obtain ⟨qln,qqE,qaU,qaV⟩:=ZD (Kd.V_reads' HO_17.out).2.2 Qz qhR qh6;obtain rfl:KT=qln:=(by injection qqE);replace qhR:=eq_true qhR;replace qh6:=eq_true qh6;have qhS:0≤(Qz:Int):=of_decide_eq_true (by first|(with_reducible assumption)|assumption);have qh7:Qz<(Yj.length:Int):=of_decide_eq_true (by first|(with_reducible assumption)|assumption);obtain ⟨qlo,qqF,qaW,qaX⟩:=ZD (Kd.V_reads' HO_7.out).2.2 Qz qhS qh7;obtain rfl:KU=qlo:=(by injection qqF);replace qhS:=eq_true qhS;replace qh7:=eq_true qh7;refine GU (n:=39) (S:=fun w'=>w'.cell? (KT.add ((Qz).toNat*2))=some (.int .i64 ((Qo ZM Qz).f0))∧w'.cell? ⟨(KT.add ((Qz).toNat*2)).block,(KT.add ((Qz).toNat*2)).off+1,none⟩=some (.int .i64 ((Qo ZM Qz).f1))∧w'.cell? (KU.add ((Qz).toNat*2))=some (.int .i64 ((Qo Yj Qz).f0))∧w'.cell? ⟨(KU.add ((Qz).toNat*2)).block,(KU.add ((Qz).toNat*2)).off+1,none⟩=some (.int .i64 ((Qo Yj Qz).f1))∧w'.cell? (KT.add ((Qz).toNat*2))=some (.int .i64 ((Qo ZM Qz).f0))∧w'.cell? ⟨(KT.add ((Qz).toNat*2)).block,(KT.add ((Qz).toNat*2)).off+1,none⟩=some (.int .i64 ((Qo ZM Qz).f1))∧w'.cell? (KU.add ((Qz).toNat*2))=some (.int .i64 ((Qo Yj Qz).f0))∧w'.cell? ⟨(KU.add ((Qz).toNat*2)).block,(KU.add ((Qz).toNat*2)).off+1,none⟩=some (.int .i64 ((Qo Yj Qz).f1))) (ds:=[]) (Qg 39 0) (by kernel_rfl) rfl rfl ⟨UG,UH,UI,UJ,qaU,qaV,qaW,qaX⟩ (fun hHeld => ?_);refine Jn Q6.tab26 Q6.bits26 (fun HT_ HW_ => ?_)
            generalize wr.drew=qHx at HO_7 HO_9 HO_17 HB UG UH UI UJ qaU qaV qaW qaX hHeld ⊢
            refine Qh 0 (some 206) (Qg 39 1) rfl rfl HT_.out (by kernel_rfl) (fun _ _ _ h=>h) ⟨.inl ⟨by rfl,fun w'=>by go_simp;with_reducible rfl⟩,by simp only [Qf,Qb,Qe,Qd,Qc,Qk,Qm];rfl,?_⟩;refine Qh 1 (some 207) (Qg 39 3) rfl rfl HT_.out (by kernel_rfl) (fun _ _ _ h=>h) ⟨.inl ⟨by rfl,fun w'=>by go_simp;with_reducible rfl⟩,by simp only [Qf,Qb,Qe,Qd,Qc,Qk,Qm];rfl,?_⟩;refine Qh 2 (some 208) (Qg 39 7) rfl rfl HT_.out (by kernel_rfl) (fun _ _ _ h=>h) ⟨.inr ⟨by rfl,rfl⟩,by simp only [Qf,Qb,Qe,Qd,Qc,Qk,Qm];rfl,?_⟩;refine Qh 3 (some 209) (Qg 39 15) rfl rfl HT_.out (by kernel_rfl) (fun _ _ _ h=>h) ⟨.inr ⟨by rfl,rfl⟩,by simp only [Qf,Qb,Qe,Qd,Qc,Qk,Qm];rfl,?_⟩;refine Qh 4 (some 210) (Qg 39 31) rfl rfl HT_.out (by kernel_rfl) (fun _ _ _ h=>h) ⟨.inr ⟨by rfl,rfl⟩,by simp only [Qf,Qb,Qe,Qd,Qc,Qk,Qm];rfl,?_⟩;refine Qh 5 (some 211) (Qg 39 63) rfl rfl HT_.out (by kernel_rfl) (fun _ _ _ h=>h) ⟨.inr ⟨by rfl,rfl⟩,by simp only [Qf,Qb,Qe,Qd,Qc,Qk,Qm];rfl,?_⟩;refine Qh 6 (some 212) (Qg 39 127) rfl rfl HT_.out (by kernel_rfl) (fun _ _ _ h=>h) ⟨.inr ⟨by rfl,rfl⟩,by simp only [Qf,Qb,Qe,Qd,Qc,Qk,Qm];rfl,?_⟩;refine Qh 7 (some 213) (Qg 39 255) rfl rfl HT_.out (by kernel_rfl) (fun _ _ _ h=>h) ⟨.inr ⟨by rfl,rfl⟩,by simp only [Qf,Qb,Qe,Qd,Qc,Qk,Qm];rfl,?_⟩;refine Qh 8 (some 214) (Qg 39 511) rfl rfl HT_.out (by kernel_rfl) (fun _ _ _ h=>h) ⟨.inr ⟨by rfl,rfl⟩,by simp only [Qf,Qb,Qe,Qd,Qc,Qk,Qm];rfl,?_⟩;refine Qh 9 (some 215) (Qg 39 1023) rfl rfl HT_.out (by kernel_rfl) (fun _ _ _ h=>h) ⟨.inr ⟨by rfl,rfl⟩,by simp only [Qf,Qb,Qe,Qd,Qc,Qk,Qm];rfl,?_⟩;refine Qh 10 (some 216) (Qg 39 2047) rfl rfl HT_.out (by kernel_rfl) (fun _ _ _ h=>h) ⟨.inr ⟨by rfl,rfl⟩,by simp only [Qf,Qb,Qe,Qd,Qc,Qk,Qm];rfl,?_⟩;refine Qh 11 (some 217) (Qg 39 4095) rfl rfl HT_.out (by kernel_rfl) (fun _ _ _ h=>h) ⟨.inr ⟨by rfl,rfl⟩,by simp only [Qf,Qb,Qe,Qd,Qc,Qk,Qm];rfl,?_⟩;refine Qh 12 (some 218) (Qg 39 8191) rfl rfl HT_.out (by kernel_rfl) (fun _ _ _ h=>h) ⟨.inl ⟨by rfl,fun w'=>by go_simp;with_reducible rfl⟩,by simp only [Qf,Qb,Qe,Qd,Qc,Qk,Qm];rfl,?_⟩;refine Qh 13 (some 219) (Qg 39 16383) rfl rfl HT_.out (by kernel_rfl) (fun _ _ _ h=>h) ⟨.inl ⟨by rfl,fun w'=>by go_simp;with_reducible rfl⟩,by simp only [Qf,Qb,Qe,Qd,Qc,Qk,Qm];rfl,?_⟩;refine Qh 14 (some 220) (Qg 39 32767) rfl rfl HT_.out (by kernel_rfl) (fun _ _ _ h=>h) ⟨.inl ⟨by rfl,fun w'=>by go_simp;with_reducible rfl⟩,by simp only [Qf,Qb,Qe,Qd,Qc,Qk,Qm];rfl,?_⟩;refine Qh 15 (some 221) (Qg 39 65535) rfl rfl HT_.out (by kernel_rfl) (fun _ _ _ h=>h) ⟨.inl ⟨by rfl,fun w'=>by go_simp;with_reducible rfl⟩,by simp only [Qf,Qb,Qe,Qd,Qc,Qk,Qm];rfl,?_⟩;refine Qh 16 (some 222) (Qg 39 131071) rfl rfl HT_.out (by kernel_rfl) (fun _ _ _ h=>h) ⟨.inl ⟨by rfl,fun w'=>by go_simp;with_reducible rfl⟩,by simp only [Qf,Qb,Qe,Qd,Qc,Qk,Qm];rfl,?_⟩;refine Qh 17 (some 223) (Qg 39 262143) rfl rfl HT_.out (by kernel_rfl) (fun _ _ _ h=>h) ⟨.inl ⟨by rfl,fun w'=>by go_simp;with_reducible rfl⟩,by simp only [Qf,Qb,Qe,Qd,Qc,Qk,Qm];rfl,?_⟩;refine Qh 19 (some 225) (Qg 39 786431) rfl rfl HT_.out (by kernel_rfl) (fun _ _ _ h=>h) ⟨.inl ⟨by rfl,fun w'=>by go_simp;with_reducible rfl⟩,by simp only [Qf,Qb,Qe,Qd,Qc,Qk,Qm];rfl,?_⟩;refine Qh 20 (some 226) (Qg 39 1835007) rfl rfl HT_.out (by kernel_rfl) (fun _ _ _ h=>h) ⟨.inl ⟨by rfl,fun w'=>by go_simp;with_reducible rfl⟩,by simp only [Qf,Qb,Qe,Qd,Qc,Qk,Qm];rfl,?_⟩;refine Qh 21 (some 227) (Qg 39 3932159) rfl rfl HT_.out (by kernel_rfl) (fun _ _ _ h=>h) ⟨.inl ⟨by rfl,fun w'=>by go_simp;with_reducible rfl⟩,by simp only [Qf,Qb,Qe,Qd,Qc,Qk,Qm];rfl,?_⟩;refine Qh 22 (some 228) (Qg 39 8126463) rfl rfl HT_.out (by kernel_rfl) (fun _ _ _ h=>h) ⟨.inl ⟨by rfl,fun w'=>by go_simp;with_reducible rfl⟩,by simp only [Qf,Qb,Qe,Qd,Qc,Qk,Qm];rfl,?_⟩;refine Yn 18 (some 224) (Qg 39 8388607) rfl rfl (Yo HT_.out HW_.out (by kernel_rfl)) (fun _ _ _ h=>h) hHeld ⟨.inl ⟨by rfl,by rintro w' ⟨s0,s1,s2,s3,s4,s5,s6,s7⟩;go_simp;with_reducible rfl⟩,by simp only [Qf,Qb,Qe,Qd,Qc,Qk,Qm];rfl,?_⟩;refine Yn 23 (some 229) (Qg 39 16777215) rfl rfl (Yo HT_.out HW_.out (by kernel_rfl)) (fun _ _ _ h=>h) hHeld ⟨.inl ⟨by rfl,by rintro w' ⟨s0,s1,s2,s3,s4,s5,s6,s7⟩;go_simp;with_reducible rfl⟩,by simp only [Qf,Qb,Qe,Qd,Qc,Qk,Qm];rfl,?_⟩;refine Qh 24 (some 230) (Qg 39 33554431) rfl rfl HT_.out (by kernel_rfl) (fun _ _ _ h=>h) ⟨.inl ⟨by rfl,fun w'=>by go_simp;with_reducible rfl⟩,by simp only [Qf,Qb,Qe,Qd,Qc,Qk,Qm];rfl,?_⟩;refine Qh 25 (some 231) (Qg 39 67108863) rfl rfl HT_.out (by kernel_rfl) (fun _ _ _ h=>h) ⟨.inl ⟨by rfl,fun w'=>by go_simp;with_reducible rfl⟩,by simp only [Qf,Qb,Qe,Qd,Qc,Qk,Qm];rfl,?_⟩;refine Qh 26 (some 232) (Qg 39 134217727) rfl rfl HT_.out (by kernel_rfl) (fun _ _ _ h=>h) ⟨.inl ⟨by rfl,fun w'=>by go_simp;with_reducible rfl⟩,by simp only [Qf,Qb,Qe,Qd,Qc,Qk,Qm];rfl,?_⟩;refine Qh 27 (some 233) (Qg 39 268435455) rfl rfl HT_.out (by kernel_rfl) (fun _ _ _ h=>h) ⟨.inl ⟨by rfl,fun w'=>by go_simp;with_reducible rfl⟩,by simp only [Qf,Qb,Qe,Qd,Qc,Qk,Qm];rfl,?_⟩;refine Qh 28 (some 234) (Qg 39 536870911) rfl rfl HT_.out (by kernel_rfl) (fun _ _ _ h=>h) ⟨.inl ⟨by rfl,fun w'=>by go_simp;with_reducible rfl⟩,by simp only [Qf,Qb,Qe,Qd,Qc,Qk,Qm];rfl,?_⟩;refine Qh 29 (some 235) (Qg 39 1073741823) rfl rfl HT_.out (by kernel_rfl) (fun _ _ _ h=>h) ⟨.inl ⟨by rfl,fun w'=>by go_simp;with_reducible rfl⟩,by simp only [Qf,Qb,Qe,Qd,Qc,Qk,Qm];rfl,?_⟩;refine Qh 30 (some 236) (Qg 39 2147483647) rfl rfl HT_.out (by kernel_rfl) (fun _ _ _ h=>h) ⟨.inl ⟨by rfl,fun w'=>by go_simp;with_reducible rfl⟩,by simp only [Qf,Qb,Qe,Qd,Qc,Qk,Qm];rfl,?_⟩;refine Qh 32 (some 238) (Qg 39 6442450943) rfl rfl HT_.out (by kernel_rfl) (fun _ _ _ h=>h) ⟨.inl ⟨by rfl,fun w'=>by go_simp;with_reducible rfl⟩,by simp only [Qf,Qb,Qe,Qd,Qc,Qk,Qm];rfl,?_⟩;refine Qh 33 (some 239) (Qg 39 15032385535) rfl rfl HT_.out (by kernel_rfl) (fun _ _ _ h=>h) ⟨.inl ⟨by rfl,fun w'=>by go_simp;with_reducible rfl⟩,by simp only [Qf,Qb,Qe,Qd,Qc,Qk,Qm];rfl,?_⟩;refine Qh 34 (some 240) (Qg 39 32212254719) rfl rfl HT_.out (by kernel_rfl) (fun _ _ _ h=>h) ⟨.inl ⟨by rfl,fun w'=>by go_simp;with_reducible rfl⟩,by simp only [Qf,Qb,Qe,Qd,Qc,Qk,Qm];rfl,?_⟩;refine Qh 35 (some 241) (Qg 39 66571993087) rfl rfl HT_.out (by kernel_rfl) (fun _ _ _ h=>h) ⟨.inl ⟨by rfl,fun w'=>by go_simp;with_reducible rfl⟩,by simp only [Qf,Qb,Qe,Qd,Qc,Qk,Qm];rfl,?_⟩;refine Yn 31 (some 237) (Qg 39 68719476735) rfl rfl (Yo HT_.out HW_.out (by kernel_rfl)) (fun _ _ _ h=>h) hHeld ⟨.inl ⟨by rfl,by rintro w' ⟨s0,s1,s2,s3,s4,s5,s6,s7⟩;go_simp;with_reducible rfl⟩,by simp only [Qf,Qb,Qe,Qd,Qc,Qk,Qm];rfl,?_⟩;refine Yn 36 (some 242) (Qg 39 137438953471) rfl rfl (Yo HT_.out HW_.out (by kernel_rfl)) (fun _ _ _ h=>h) hHeld ⟨.inl ⟨by rfl,by rintro w' ⟨s0,s1,s2,s3,s4,s5,s6,s7⟩;go_simp;with_reducible rfl⟩,by simp only [Qf,Qb,Qe,Qd,Qc,Qk,Qm];rfl,?_⟩;refine Qh 37 (some 243) (Qg 39 274877906943) rfl rfl HT_.out (by kernel_rfl) (fun _ _ _ h=>h) ⟨.inl ⟨by rfl,fun w'=>by go_simp;with_reducible rfl⟩,by simp only [Qf,Qb,Qe,Qd,Qc,Qk,Qm];rfl,?_⟩;refine Qh 38 (some 244) (Qg 39 549755813887) rfl rfl HT_.out (by kernel_rfl) (fun _ _ _ h=>h) ⟨.inl ⟨by rfl,fun w'=>by go_simp;with_reducible rfl⟩,by simp only [Qf,Qb,Qe,Qd,Qc,Qk,Qm];rfl,?_⟩;refine Oz (Ga HT_.out (by kernel_rfl)) ?_
            try go_wp2
            go_roundg k5
            case measure=>have:=HJ4.out;have:=HK2.out;have:=qfK.out;have:=qmX.out;have:=HK5.out;omega
            case rel=>exact ⟨(wrap64 (Qz+1)),(by first|rfl|(simp;done)|(simp [*];done)),H',⟨by have:=HJ4.out;have:=HK2.out;have:=qfK.out;have:=qmX.out;have:=HK5.out;omega⟩,⟨by (with_reducible repeat (first|apply Kd.V_alloc|apply Kd.V_drewN|apply Kd.V_drew));exact HO_7.out⟩,⟨by (with_reducible repeat (first|apply Kd.R_alloc|apply Kd.R_drewN|apply Kd.R_drew));exact HO_9.out⟩,⟨by (with_reducible repeat (first|apply Kd.V_alloc|apply Kd.V_drewN|apply Kd.V_drew));exact HO_17.out⟩,⟨by repeat (first|(with_reducible first|exact HB.out|apply Q2|apply Q1|apply Q4)|exact HB.out)⟩⟩
           rw [if_neg qm7] at H
           exact absurd H (by simp)
          rw [if_neg c107] at H
          exact absurd H (by simp)
         as_aux_lemma =>
         rw [if_neg c79] at H;have c79b0:decide (Qz<(Yj.length:Int))=false:=decide_eq_false c79;clear c79;replace H:=Option.bind_eq_some_iff.mp H;obtain ⟨qo1,qpd,H⟩:=H;replace H:(some qo1)=some r:=H;have qbe:=Q0.mk qpd;clear qpd;obtain rfl:=Option.some.inj H;obtain ⟨qC1,qDG,qsV⟩:=Kd.V_slice HO_7.out;subst qsV
         go_wp2_with (first|((with_reducible refine QF (f:=21) rfl ?_);refine YE (some 245) rfl rfl Try.func21 (by kernel_rfl) rfl #[] rfl (by (try simp only [List.map_toArray,List.map_cons,List.map_nil]);first|done|rfl|(simp only [List.length_drop,List.length_take];rfl)) ?_;(with_reducible refine (ZE.calls  qo1 _ qbe.out).mono ?_);rintro e qHy ⟨rfl,hb⟩;refine ⟨_,rfl,?_⟩;have n0_:=Q0.mk (Kd.V_below (by (with_reducible repeat (first|apply Kd.V_alloc|apply Kd.V_drewN|apply Kd.V_drew));exact HO_7.out) hb);have n1_:=Q0.mk (Kd.R_below (by (with_reducible repeat (first|apply Kd.R_alloc|apply Kd.R_drewN|apply Kd.R_drew));exact HO_9.out) hb);have n2_:=Q0.mk (Kd.V_below (by (with_reducible repeat (first|apply Kd.V_alloc|apply Kd.V_drewN|apply Kd.V_drew));exact HO_17.out) hb);have n3_:=Q0.mk (Qv (by repeat (first|(with_reducible first|exact HB.out|apply Q2|apply Q1|apply Q4)|exact HB.out)) hb);clear HO_7 HO_9 HO_17 HB;have HO_7:=n0_;have HO_9:=n1_;have HO_17:=n2_;have HB:=n3_;clear n0_ n1_ n2_ n3_;(try clear hb);(try clear hb2);(try clear hk);(try clear hi)))
         go_ret
         exact ⟨by first|rfl|(simp [QC,QD]<;>rfl)|(simp only [← OE,← OG];first|rfl|(simp [QC,QD]<;>rfl))|(simp [*,QC,QD]<;>rfl),by repeat (first|(with_reducible first|exact HB.out|apply Q2|apply Q1|apply Q4)|exact HB.out)⟩
      rw [if_neg c59] at H
      exact absurd H (by simp)
     rw [if_neg c58] at H
     exact absurd H (by simp)
    rw [if_neg c53] at H
    exact absurd H (by simp)
end
section
attribute [local go_sem] YR YU Z8 Z9 YA YC YT YV
end
section
attribute [local go_sem] YR YU Z8 Z9 YA YC YT YV
end
section
attribute [local go_sem] YR YU Z8 Z9 YA YC YT YV
end
end Go.Proofs.Ytmhomdohhihlcaa.P
namespace Go.Proofs.Ytmhomdohhihlcaa.P
open Go.RowKit Go.ChangeShapes Go.WideShapes Go.Proofs.YtmhomdohhihlcaaW.PrintWords Go.Proofs.YtmhomdohhihlcaaW.PrintLast Go.Proofs.YtmhomdohhihlcaaW.PrintMore
def Wk {α:Type} (d:Kd α) (t:TypeId) (p:α→Prop):Prop:=∀ (H:Type) (enc:TypeId × Value→H) (w:World) (fuel:Nat) (cs:List Value) (x:DataW H × List MemPlace),
 DataW.trod enc Try.prog w 0 (fun _=>true) true fuel t cs=some x → ∃ a,d.K w a cs∧p a
def Wf (n:Int):Prop:=(Lit.int .i64 n).wf=true
theorem qkn:Wk (Kd.int .i64) 3 Wf:=fun H enc w fuel cs x h=>by
 obtain ⟨n,rfl,_,hw⟩:=DataW.trod_int Try.underlying3 h
 exact ⟨n,rfl,hw⟩
theorem qbI {α:Type} {d:Kd α} {e e' t:TypeId} {p:α→Prop} (h:Wk d e p) (ht:Try.prog.underlying t=some (.slice e)) (hc:Try.prog.cellsOf e=d.sz):Wk (Kd.slice e' d) t (fun xs => ∀ x∈xs,p x):=fun H enc w fuel cs x hf=>by
 rcases Deep.open_slice ht hf with ⟨rfl,_⟩|⟨a,len,cap,m,n,D,Pl,rfl,_,hl,hm,hmm,_,hx⟩
 ·
  exact ⟨[],⟨none,0,rfl,Nat.le_refl _,Kd.C_nil d w⟩,fun x hx=>by simp at hx⟩
 ·
  have each:∀ i,i<len → ∃ z:α,(∃ c,c.length=d.sz∧d.K w z c ∧ ∀ j u,c[j]? = some u→w.cell? (a.add (i*d.sz+j))=some u)∧p z:=fun i hi=>by
   obtain ⟨cs',h1,h2⟩:=hx i (by simp only [if_true] at hmm;omega)
   obtain ⟨z,hz,hp⟩:=h H enc w n cs' _ h2
   obtain ⟨_,hcl,hat⟩:=World.cells?_some h1
   refine ⟨z,⟨cs',d.K_len hz,hz,fun j u hu => ?_⟩,hp⟩
   have hj:j<cs'.length:=(List.getElem?_eq_some_iff.1 hu).1
   rw [d.K_len hz] at hj
   have hj':j<Try.prog.cellsOf e:=by rw [hc];exact hj
   have h3:=hat j hj'
   rw [Deep.add_add,hc] at h3
   rw [h3]
   exact hu
  by_cases h0:len=0
  ·
   subst h0
   exact ⟨[],⟨some a,cap,rfl,by simp,⟨rfl,by simp,fun hh=>by simp at hh⟩⟩,fun x hx=>by simp at hx⟩
  ·
   obtain ⟨z0,_⟩:=each 0 (by omega)
   have inst:Inhabited α:=⟨z0⟩
   obtain ⟨f,hfz⟩:=Deep.choose_lt each
   have hmx:cap≤9223372036854775807:=by unfold maxLen at hm;omega
   refine ⟨(List.range len).map f,⟨some a,cap,by simp,by simpa using hl,⟨rfl,by simp;omega,fun _=>⟨a,rfl,fun j q hj => ?_⟩⟩⟩,fun x hx => ?_⟩
   ·
    have hj2:j<len:=by have:=(List.getElem?_eq_some_iff.1 hj).1;simpa using this
    rw [List.getElem?_map,List.getElem?_range hj2] at hj
    injection hj with hj
    subst hj;obtain ⟨c,c1,c2,c3⟩:=(hfz j hj2).1
    exact ⟨c,c1,c2,c3⟩
   ·
    obtain ⟨i,hi,rfl⟩:=List.mem_map.1 hx
    exact (hfz i (List.mem_range.1 hi)).2
theorem c3:Try.prog.cellsOf 3=1:=by kernel_rfl
theorem c25:Try.prog.cellsOf 25=2:=by kernel_rfl
theorem c37:Try.prog.cellsOf 37=1:=by kernel_rfl
theorem c32:Try.prog.cellsOf 32=1:=by kernel_rfl
theorem c63:Try.prog.cellsOf 63=1:=by kernel_rfl
theorem c44:Try.prog.cellsOf 44=1:=by kernel_rfl
theorem c45:Try.prog.cellsOf 45=1:=by kernel_rfl
theorem c39:Try.prog.cellsOf 39=5:=by kernel_rfl
theorem c47:Try.prog.cellsOf 47=3:=by kernel_rfl
theorem c23:Try.prog.cellsOf 23=2:=by kernel_rfl
theorem c77:Try.prog.cellsOf 77=3:=by kernel_rfl
theorem c85:Try.prog.cellsOf 85=4:=by kernel_rfl
theorem qu5 {α:Type} {l:List α} (h:l.length=2):∃ a b,l=[a,b]:=by
 match l,h with
 | [a,b],_=>exact ⟨a,b,rfl⟩
theorem qjE {α:Type} {l:List α} {i:Nat} {o:Option α} (hi:i<l.length) (h:o=l[i]?):∃ y,o=some y:=⟨l[i],by rw [h,List.getElem?_eq_getElem hi]⟩
def W25 (s:S25):Prop:=Wf s.f0∧Wf s.f1
def WL (l:List Int):Prop:=∀ x∈l,Wf x
theorem qh8:Wk (Kd.slice 3 (Kd.int .i64)) 37 WL:=qbI qkn Try.underlying37 c3
theorem qgD:Wk k25 25 W25:=fun H enc w fuel cs x h=>by
 obtain ⟨xs,n,_,_,hl,hxl,hf⟩:=DataW.trod_struct Try.underlying25 h
 rw [c25] at hl
 obtain ⟨a,b,rfl⟩:=qu5 hl
 have h0:DataW.trod enc Try.prog w 0 (fun _=>true) true n 3 (([a,b].drop 0).take (Try.prog.cellsOf 3))=xs[0]?:=hf 0 _ rfl
 have h1:DataW.trod enc Try.prog w 0 (fun _=>true) true n 3 (([a,b].drop 1).take (Try.prog.cellsOf 3))=xs[1]?:=hf 1 _ rfl
 rw [c3] at h0 h1
 have hx2:xs.length=2:=hxl
 obtain ⟨y0,e0⟩:=qjE (by omega) h0
 obtain ⟨y1,e1⟩:=qjE (by omega) h1
 obtain ⟨n0,q0,_,g0⟩:=DataW.trod_int Try.underlying3 e0
 obtain ⟨n1,q1,_,g1⟩:=DataW.trod_int Try.underlying3 e1
 replace q0:[a]=[Value.int .i64 n0]:=q0
 replace q1:[b]=[Value.int .i64 n1]:=q1
 injection q0 with q0
 injection q1 with q1
 subst q0 q1
 exact ⟨⟨n0,n1⟩,ql9 w ⟨n0,n1⟩,g0,g1⟩
theorem qgE:Wk (Kd.slice 25 k25) 32 (fun l => ∀ x∈l,W25 x):=qbI qgD Try.underlying32 c25
section
variable {H:Type} {enc:TypeId × Value→H} {W:World} {d:DataW H} {ps:List MemPlace}
theorem qd0 {α:Type} {k:Kd α} {t e':TypeId} {p:List α→Prop} (hr:Wk (Kd.slice e' k) t p) {a:Option Addr} {len cap:Nat} (h:DataW.Trod enc Try.prog W 0 (fun _=>true) true t (.slice a len cap) d ps) :
  ∃ l:List α,len=l.length∧Kd.C k W a l.length l∧l.length≤cap∧p l:=by
 obtain ⟨fuel,hf⟩:=h
 obtain ⟨l,⟨A,c,e1,hc,hC⟩,hp⟩:=hr H enc W fuel _ _ hf
 replace e1:[Value.slice a len cap]=[Value.slice A l.length c]:=e1
 injection e1 with e1
 injection e1 with e1 e2 e3
 subst e1 e2 e3
 exact ⟨l,rfl,hC,hc,hp⟩
theorem qcW {t e:TypeId} {a:Option Addr} {len cap:Nat} {ts:List TypeId} {ds:List (DataW H)} {j:Nat} {B:Nat}
  (hsz:(DataW.weightsEach Try.prog ts ds).all (· ≤ reachBytes)=true) (ht:ts[j]? = some t) (hd:ds[j]? = some d) (hu:Try.prog.underlying t=some (.slice e)) (hB:Try.prog.bytesOf e=B)
  (h:DataW.Trod enc Try.prog W 0 (fun _=>true) true t (.slice a len cap) d ps):len*B≤140737488351232:=by
 obtain ⟨fuel,hf⟩:=h
 rcases Deep.open_slice hu hf with ⟨hcs,_⟩|⟨a',len',cap',m,n,D,Pl,hcs,_,hl,_,hmm,hx,_⟩
 ·
  replace hcs:[Value.slice a len cap]=[Value.slice none 0 0]:=hcs
  injection hcs with hcs
  injection hcs with _ h2 _
  subst h2
  simp
 ·
  replace hcs:[Value.slice a len cap]=[Value.slice (some a') len' cap']:=hcs
  injection hcs with hcs
  injection hcs with _ h2 _
  subst h2
  injection hx with hx _
  rw [hx] at hd
  have z:=sized_slice hsz ht hd hu
  rw [hB] at z
  have hrb:reachBytes=140737488351232:=by decide
  rw [hrb] at z
  simp only [List.length_map,List.length_range] at z
  exact Nat.le_trans (Nat.mul_le_mul_right _ (by omega)) z
end
end Go.Proofs.Ytmhomdohhihlcaa.P
namespace Go.Proofs.Ytmhomdohhihlcaa.P
open Go.RowKit Go.Proofs.YtmhomdohhihlcaaW.PrintWords Go.Proofs.YtmhomdohhihlcaaW.PrintLast Go.Proofs.YtmhomdohhihlcaaW.PrintMore
section
theorem modP (a b:Int) (hb:0<b) (hb2:b≤4611686018427387904):Yk.f a b=some (a % b):=by
 unfold Yk.f
 rw [if_neg (by omega)]
 have h1:=Int.tmod_lt_of_pos a hb
 have h2:Int.tmod a b=a % b∨Int.tmod a b=a % b-b:=by
  rw [Int.tmod_eq_emod]
  split
  ·
   left;simp
  ·
   right
   have:(b.natAbs:Int)=b:=by omega
   rw [this]
 have h3:=Int.emod_nonneg a (by omega:b≠0)
 have h4:=Int.emod_lt_of_pos a hb
 rcases h2 with h2|h2
 ·
  rw [if_neg (by omega),h2]
 ·
  rw [if_pos (by omega),h2]
  congr 1
  unfold wrap64
  omega
theorem w64s {z:Int} (h0:0≤z) (h1:z≤1000000000):wrap64 z=z:=by unfold wrap64;omega
theorem modB (a b:Int) (hb:0<b) (hb2:b≤4611686018427387904):∃ m,Yk.f a b=some m∧0≤m∧m<b :=
 ⟨a % b,modP a b hb hb2,Int.emod_nonneg a (by omega),Int.emod_lt_of_pos a hb⟩
theorem qmn (l:List Int) (a:Int) (hl:l.length*8≤140737488351232):∃ p,YG.f l a=some p:=by
 unfold YG.f
 by_cases h0:(l.length:Int)=0
 ·
  exact ⟨0,by rw [if_pos h0]⟩
 ·
  have h1:=Int.emod_nonneg a h0
  have h2:=Int.emod_lt_of_pos a (by omega:(0:Int)<l.length)
  exact ⟨rd l (a % l.length),by rw [if_neg h0,modP _ _ (by omega) (by omega),Option.bind_some,if_pos h1,if_pos h2]⟩
end
section
attribute [local go_sem] YR YU Z8 Z9 YA YC YT YV
end
section
attribute [local go_sem] YR YU Z8 Z9 YA YC YT YV
attribute [local go_sem high] qlD
end
section
theorem qbL (a b c:Int):Qt.f a b c=some (wi a b c):=by
 unfold Qt.f wi
 by_cases h:b≤a
 ·
  rw [if_pos h];simp [h]
 ·
  rw [if_neg h];simp [h]
theorem qbV (a b c:Int):Yq.f a b c=some (wi a b c):=by
 unfold Yq.f wi
 by_cases h:b≤a
 ·
  rw [if_pos h];simp [h]
 ·
  rw [if_neg h];simp [h]
def sp (a b h:Int):Bool:=decide (0≤a∧a≤b∧b≤h)
theorem qe4 (a b h:Int):ZU.f a b h=some (sp a b h):=by
 unfold ZU.f sp
 by_cases h1:0≤a
 ·
  rw [if_pos h1]
  by_cases h2:a≤b
  ·
   rw [if_pos h2];simp [h1,h2]
  ·
   rw [if_neg h2];simp [h2]
 ·
  rw [if_neg h1];simp [h1]
theorem qeg (a b h:Int):ZS.f a b 0 h=some (sp a b h):=by
 unfold ZS.f
 rw [qbV,qbV]
 simp only [Option.bind_some]
 by_cases h1:wi a 0 h=true
 ·
  rw [if_pos h1]
  obtain ⟨h2,h3⟩:=WQ.1 h1
  unfold wi sp
  congr 1
  rw [decide_eq_decide]
  omega
 ·
  rw [if_neg h1]
  unfold wi at h1
  unfold sp
  congr 1
  symm
  simp at h1 ⊢
  omega
theorem wr1 (i n:Nat) (h:i<n) (hn:(n:Int)≤9223372036854775807):wrap64 ((i:Int)+1)=((i+1:Nat):Int):=by unfold wrap64;omega
end
section
theorem qdH (l:List S25) (i:Nat) (h:i<l.length):Qo l (i:Int)=l[i]:=by simp [Qo,List.getD_eq_getElem?_getD,List.getElem?_eq_getElem h]
theorem qCG (l:List (List S25)) (i:Nat) (h:i<l.length):Yx l (i:Int)=l[i]:=by simp [Yx,List.getD_eq_getElem?_getD,List.getElem?_eq_getElem h]
theorem rdN (l:List Int) (i:Nat) (h:i<l.length):rd l (i:Int)=l[i]:=by simp [rd,List.getD_eq_getElem?_getD,List.getElem?_eq_getElem h]
def spS (s:S25):Bool:=sp s.f0 s.f1 100
theorem qa7 {s:S25}:spS s=true↔0≤s.f0∧s.f0≤s.f1∧s.f1≤100:=by unfold spS sp;rw [decide_eq_true_eq]
def areS (n:Int) (x:List S25):Bool:=wi n 1 6&&((x.length:Int)==n)&&x.all spS
theorem qbA (x:List S25) (n:Int) (hn:x.length≤9223372036854775807):Ev (fun k=>QE.f k x n) (areS n x):=by
 have loop:∀ (d i:Nat) (b:Bool),i+d=x.length→Ev (fun k=>QE.l0 k b x (x.length:Int) (i:Int)) (b&&(x.drop i).all spS):=by
  intro d
  induction d with
  | zero =>
   intro i b hi
   rw [List.drop_eq_nil_of_le (by omega),List.all_nil,Bool.and_true]
   refine Ev.step (f:=fun _=>some b) (fun k => ?_) (Ev.now _)
   simp only [QE.l0]
   rw [if_neg (by omega)]
  | succ d ih =>
   intro i b hi
   have hlt:i<x.length:=by omega
   have hw:=wr1 i x.length hlt (by omega)
   rw [List.drop_eq_getElem_cons hlt,List.all_cons,← Bool.and_assoc]
   refine Ev.step (f:=fun k=>QE.l0 k (b&&spS x[i]) x (x.length:Int) ((i+1:Nat):Int)) (fun k => ?_) (ih (i+1) _ (by omega))
   simp only [QE.l0,qe4,Option.bind_some,qdH x i hlt,hw]
   rw [if_pos (by omega),if_pos (by omega),if_pos (by omega)]
   cases b with
   | false=>simp
   | true=>simp [spS]
 have h2:Ev (fun k=>QE.j0 k x (wi n 1 6&&((x.length:Int)==n))) (areS n x):=by
  refine Ev.step (f:=fun k=>QE.l0 k (wi n 1 6&&((x.length:Int)==n)) x (x.length:Int) ((0:Nat):Int)) (fun k => ?_) (loop x.length 0 _ (by omega))
  simp [QE.j0]
 refine Ev.congr (fun k => ?_) h2
 simp only [QE.f,qbL,Option.bind_some]
 cases wi n 1 6<;>simp
theorem qmu (n:Int):∀ (L:List (List S25)) (ok:Bool),(∀ x∈L,x.length≤9223372036854775807)→Ev (fun k=>Qr.sg k n L ok) (ok&&L.all (areS n))
 | [],ok,_=>by
  rw [List.all_nil,Bool.and_true]
  exact Ev.congr (fun k=>rfl) (Ev.now _)
 | x::xs,ok,h=>by
  rw [List.all_cons,← Bool.and_assoc]
  cases ok with
  | false=>exact Ev.congr (fun k=>by simp [Qr.sg]) (qmu n xs false (fun y hy=>h y (by simp [hy])))
  | true =>
   refine Ev.congr (f:=fun k=>(QE.f k x n).bind fun b=>Qr.sg k n xs b) (fun k=>by simp [Qr.sg]) ?_
   exact Ev.bind (qbA x n (h x (by simp))) (qmu n xs _ (fun y hy=>h y (by simp [hy])))
def dl (g:S25→Int) (mix:List Int) (l0:List (List S25)) (k:Int):Nat→Int
 | 0=>0
 | j+1=>dl g mix l0 k j+rd mix (j:Int)*g (Qo (Yx l0 (j:Int)) k)
structure Sg (l0:List (List S25)) (n:Nat):Prop where
 n1:1≤n
 n6:n≤6
 r1:1≤l0.length
 r3:l0.length≤3
 ln:∀ r:Nat,r<l0.length→(Yx l0 (r:Int)).length=n
 sp:∀ r k:Nat,r<l0.length→k<n→0≤(Qo (Yx l0 (r:Int)) (k:Int)).f0∧(Qo (Yx l0 (r:Int)) (k:Int)).f0≤(Qo (Yx l0 (r:Int)) (k:Int)).f1∧(Qo (Yx l0 (r:Int)) (k:Int)).f1≤100
theorem Sg.of {l0:List (List S25)} {n:Nat} (h0:wi (l0.length:Int) 1 3=true) (hn:wi (n:Int) 1 6=true) (h1:l0.all (areS (n:Int))=true):Sg l0 n:=by
 obtain ⟨a0,a1⟩:=WQ.1 h0
 obtain ⟨b0,b1⟩:=WQ.1 hn
 have hr:∀ r:Nat,r<l0.length→(Yx l0 (r:Int)).length=n∧(Yx l0 (r:Int)).all spS=true:=fun r hr=>by
  have:=List.all_eq_true.1 h1 l0[r] (List.getElem_mem hr)
  unfold areS at this
  rw [Bool.and_eq_true,Bool.and_eq_true,beq_iff_eq] at this
  rw [qCG l0 r hr]
  exact ⟨by omega,this.2⟩
 refine ⟨by omega,by omega,by omega,by omega,fun r h=>(hr r h).1,fun r k h hk => ?_⟩
 obtain ⟨e1,e2⟩:=hr r h
 have hk':k<(Yx l0 (r:Int)).length:=by omega
 rw [qdH _ k hk']
 exact qa7.1 (List.all_eq_true.1 e2 _ (List.getElem_mem hk'))
structure Mx (mix:List Int) (n:Nat):Prop where
 ln:mix.length=n
 lo:∀ r:Nat,r<n→0≤rd mix (r:Int)
 hi:∀ r:Nat,r<n→rd mix (r:Int)≤100
theorem qjB {a b:Int} (a0:0≤a) (a1:a≤100) (b0:0≤b) (b1:b≤100):0≤a*b∧a*b≤10000 :=
 ⟨Int.mul_nonneg a0 b0,Int.le_trans (Int.mul_le_mul a1 b1 b0 (by decide)) (by decide)⟩
section
variable {l0:List (List S25)} {n:Nat} (hs:Sg l0 n)
include hs
theorem dl_b {mix:List Int} (hm:Mx mix l0.length) (g:S25→Int) (hg:∀ r k:Nat,r<l0.length→k<n→0≤g (Qo (Yx l0 (r:Int)) (k:Int))∧g (Qo (Yx l0 (r:Int)) (k:Int))≤100) (k:Nat) (hk:k<n):∀ j:Nat,j≤l0.length→0≤dl g mix l0 k j∧dl g mix l0 k j≤10000*(j:Int)
 | 0,_=>by simp [dl]
 | j+1,hj=>by
  have ih:=dl_b hm g hg k hk j (by omega)
  have hb:=qjB (hm.lo j (by omega)) (hm.hi j (by omega)) (hg j k (by omega) hk).1 (hg j k (by omega) hk).2
  rw [dl]
  push_cast
  omega
theorem qeo {mix:List Int} (hm:Mx mix l0.length) (g:S25→Int) (hg:∀ r k:Nat,r<l0.length→k<n→0≤g (Qo (Yx l0 (r:Int)) (k:Int))∧g (Qo (Yx l0 (r:Int)) (k:Int))≤100) (k:Nat) (hk:k<n):∀ j:Nat,j≤l0.length →
  ((List.range j).map fun r:Nat=>wrap64 (rd mix (r:Int)*g (Qo (Yx l0 (r:Int)) (k:Int)))).foldl (fun s x=>wrap64 (s+x)) 0=dl g mix l0 k j
 | 0,_=>rfl
 | j+1,hj=>by
  rw [List.range_succ,List.map_append,List.foldl_append,qeo hm g hg k hk j (by omega),List.map_cons,List.map_nil,List.foldl_cons,List.foldl_nil,dl]
  have b1:=dl_b hs hm g hg k hk j (by omega)
  have hb:=qjB (hm.lo j (by omega)) (hm.hi j (by omega)) (hg j k (by omega) hk).1 (hg j k (by omega) hk).2
  have h3:=hs.r3
  obtain ⟨X,hX⟩:∃ X,rd mix (j:Int)*g (Qo (Yx l0 (j:Int)) (k:Int))=X:=⟨_,rfl⟩
  obtain ⟨Y,hY⟩:∃ Y,dl g mix l0 k j=Y:=⟨_,rfl⟩
  rw [hX] at hb ⊢
  rw [hY] at b1 ⊢
  have e1:wrap64 X=X:=by unfold wrap64;omega
  rw [e1]
  unfold wrap64
  omega
theorem qqY {mix:List Int} (hm:Mx mix l0.length) (k:Nat) (hk:k<n):Ev (fun q=>QL.f q 0 mix l0 (k:Int)) (dl S25.f0 mix l0 k l0.length):=by
 have h3:=hs.r3
 have hml:=hm.ln
 have loop:∀ (d i:Nat),i+d=l0.length→Ev (fun q=>QL.l0 q l0 (k:Int) ((List.range i).map fun r:Nat=>wrap64 (rd mix (r:Int)*(Qo (Yx l0 (r:Int)) (k:Int)).f0)) mix (mix.length:Int) (i:Int)) (dl S25.f0 mix l0 k l0.length):=by
  intro d
  induction d with
  | zero =>
   intro i hi
   have hi':i=l0.length:=by omega
   subst hi'
   have hsum:=qe9 ((List.range l0.length).map fun r:Nat=>wrap64 (rd mix (r:Int)*(Qo (Yx l0 (r:Int)) (k:Int)).f0)) (by simp;omega)
   have hE:=Ev.of (fun q=>QX.mono _ q) hsum
   refine Ev.step (f:=fun q=>(QX.f q ((List.range l0.length).map fun r:Nat=>wrap64 (rd mix (r:Int)*(Qo (Yx l0 (r:Int)) (k:Int)).f0))).bind fun t141=>(some t141)) (fun q => ?_) (Ev.bind hE ?_)
   ·
    simp only [QL.l0];rw [if_neg (by omega)]
   ·
    rw [sumW,qeo hs hm S25.f0 (fun r k hr hk=>⟨(hs.sp r k hr hk).1,Int.le_trans (hs.sp r k hr hk).2.1 (hs.sp r k hr hk).2.2⟩) k hk l0.length (Nat.le_refl _)]
    exact Ev.now _
  | succ d ih =>
   intro i hi
   have hlt:i<l0.length:=by omega
   have hw:=wr1 i l0.length hlt (by omega)
   have hln:=hs.ln i hlt
   refine Ev.step (f:=fun q=>QL.l0 q l0 (k:Int) ((List.range (i+1)).map fun r:Nat=>wrap64 (rd mix (r:Int)*(Qo (Yx l0 (r:Int)) (k:Int)).f0)) mix (mix.length:Int) ((i+1:Nat):Int)) (fun q => ?_) (ih (i+1) (by omega))
   simp only [QL.l0,JX.f,Option.bind_some,hw]
   rw [if_pos (by omega),if_pos (by omega),if_pos (by omega),if_pos (by omega),if_pos (by omega),if_pos (by omega),if_pos (by simp;omega),List.range_succ,List.map_append,List.map_cons,List.map_nil]
 exact loop l0.length 0 (by omega)
theorem qop {mix:List Int} (hm:Mx mix l0.length) (k:Nat) (hk:k<n):Ev (fun q=>QI.f q 0 mix l0 (k:Int)) (dl S25.f1 mix l0 k l0.length):=by
 have h3:=hs.r3
 have hml:=hm.ln
 have loop:∀ (d i:Nat),i+d=l0.length→Ev (fun q=>QI.l0 q l0 (k:Int) ((List.range i).map fun r:Nat=>wrap64 (rd mix (r:Int)*(Qo (Yx l0 (r:Int)) (k:Int)).f1)) mix (mix.length:Int) (i:Int)) (dl S25.f1 mix l0 k l0.length):=by
  intro d
  induction d with
  | zero =>
   intro i hi
   have hi':i=l0.length:=by omega
   subst hi'
   have hsum:=qe9 ((List.range l0.length).map fun r:Nat=>wrap64 (rd mix (r:Int)*(Qo (Yx l0 (r:Int)) (k:Int)).f1)) (by simp;omega)
   have hE:=Ev.of (fun q=>QX.mono _ q) hsum
   refine Ev.step (f:=fun q=>(QX.f q ((List.range l0.length).map fun r:Nat=>wrap64 (rd mix (r:Int)*(Qo (Yx l0 (r:Int)) (k:Int)).f1))).bind fun t141=>(some t141)) (fun q => ?_) (Ev.bind hE ?_)
   ·
    simp only [QI.l0];rw [if_neg (by omega)]
   ·
    rw [sumW,qeo hs hm S25.f1 (fun r k hr hk=>⟨Int.le_trans (hs.sp r k hr hk).1 (hs.sp r k hr hk).2.1,(hs.sp r k hr hk).2.2⟩) k hk l0.length (Nat.le_refl _)]
    exact Ev.now _
  | succ d ih =>
   intro i hi
   have hlt:i<l0.length:=by omega
   have hw:=wr1 i l0.length hlt (by omega)
   have hln:=hs.ln i hlt
   refine Ev.step (f:=fun q=>QI.l0 q l0 (k:Int) ((List.range (i+1)).map fun r:Nat=>wrap64 (rd mix (r:Int)*(Qo (Yx l0 (r:Int)) (k:Int)).f1)) mix (mix.length:Int) ((i+1:Nat):Int)) (fun q => ?_) (ih (i+1) (by omega))
   simp only [QI.l0,JO.f,Option.bind_some,hw]
   rw [if_pos (by omega),if_pos (by omega),if_pos (by omega),if_pos (by omega),if_pos (by omega),if_pos (by omega),if_pos (by simp;omega),List.range_succ,List.map_append,List.map_cons,List.map_nil]
 exact loop l0.length 0 (by omega)
end
def agB (l0:List (List S25)) (l1:List S25) (mix:List Int):Bool:=(List.range l1.length).all fun k:Nat=>decide (dl S25.f0 mix l0 (k:Int) l0.length≤100*(Qo l1 (k:Int)).f1)&&decide (100*(Qo l1 (k:Int)).f0≤dl S25.f1 mix l0 (k:Int) l0.length)
theorem qm6 {l0:List (List S25)} {l1:List S25} {mix:List Int}:agB l0 l1 mix=true ↔ ∀ k:Nat,k<l1.length→dl S25.f0 mix l0 (k:Int) l0.length≤100*(Qo l1 (k:Int)).f1∧100*(Qo l1 (k:Int)).f0≤dl S25.f1 mix l0 (k:Int) l0.length:=by
 unfold agB
 simp only [List.all_eq_true,List.mem_range,Bool.and_eq_true,decide_eq_true_eq]
theorem qsG {l0:List (List S25)} {l1:List S25} (hs:Sg l0 l1.length) (hv:l1.all spS=true) {mix:List Int} (hm:Mx mix l0.length):Ev (fun q=>Qr.ag q l0 l1 mix l1.length 0) (agB l0 l1 mix):=by
 have h6:=hs.n6
 have loop:∀ (d i:Nat),i+d=l1.length→Ev (fun q=>Qr.ag q l0 l1 mix d (i:Int)) ((List.range' i d).all fun k:Nat=>decide (dl S25.f0 mix l0 (k:Int) l0.length≤100*(Qo l1 (k:Int)).f1)&&decide (100*(Qo l1 (k:Int)).f0≤dl S25.f1 mix l0 (k:Int) l0.length)):=by
  intro d
  induction d with
  | zero=>intro i hi;exact Ev.congr (fun q=>rfl) (Ev.now _)
  | succ d ih =>
   intro i hi
   have hlt:i<l1.length:=by omega
   rw [List.range'_succ,List.all_cons]
   have hx:=qa7.1 (List.all_eq_true.1 hv l1[i] (List.getElem_mem hlt))
   have hr:=qdH l1 i hlt
   rw [hr]
   obtain ⟨x,hxe⟩:∃ x,l1[i]=x:=⟨_,rfl⟩
   rw [hxe] at hx hr ⊢
   have w0:wrap64 (100*x.f0)=100*x.f0:=by unfold wrap64;omega
   have w1:wrap64 (100*x.f1)=100*x.f1:=by unfold wrap64;omega
   refine Ev.congr (f:=fun q=>(QL.f q 0 mix l0 (i:Int)).bind fun lo=>if 100*x.f1<lo then some false else (QI.f q 0 mix l0 (i:Int)).bind fun hi=>if hi<100*x.f0 then some false else Qr.ag q l0 l1 mix d ((i+1:Nat):Int)) (fun q=>by rw [Qr.ag,hr,w0,w1];push_cast;rfl) ?_
   refine Ev.bind (qqY hs hm i hlt) ?_
   by_cases c0:100*x.f1<dl S25.f0 mix l0 (i:Int) l0.length
   ·
    refine Ev.congr (f:=fun _=>some false) (fun q=>by rw [if_pos c0]) ?_;rw [decide_eq_false (by omega),Bool.false_and,Bool.false_and]
    exact Ev.now _
   ·
    refine Ev.congr (f:=fun q=>(QI.f q 0 mix l0 (i:Int)).bind fun hi=>if hi<100*x.f0 then some false else Qr.ag q l0 l1 mix d ((i+1:Nat):Int)) (fun q=>by rw [if_neg c0]) ?_;rw [decide_eq_true (by omega:dl S25.f0 mix l0 (i:Int) l0.length≤100*x.f1),Bool.true_and];refine Ev.bind (qop hs hm i hlt) ?_
    by_cases c1:dl S25.f1 mix l0 (i:Int) l0.length<100*x.f0
    ·
     refine Ev.congr (f:=fun _=>some false) (fun q=>by rw [if_pos c1]) ?_;rw [decide_eq_false (by omega),Bool.false_and]
     exact Ev.now _
    ·
     refine Ev.congr (f:=fun q=>Qr.ag q l0 l1 mix d ((i+1:Nat):Int)) (fun q=>by rw [if_neg c1]) ?_;rw [decide_eq_true (by omega:100*x.f0≤dl S25.f1 mix l0 (i:Int) l0.length),Bool.true_and]
     exact ih (i+1) (by omega)
 have:=loop l1.length 0 (by omega)
 rw [agB,List.range_eq_range']
 exact this
def stP (l0:List (List S25)) (l1:List S25) (out:List S25) (mix:List Int):List S25 :=
 if agB l0 l1 mix then Qr.wide (if out=[] then mix.map (fun n=>⟨n,n⟩) else out) mix else out
theorem qlq {l0:List (List S25)} {l1:List S25} (hs:Sg l0 l1.length) (hv:l1.all spS=true):∀ (L:List (List Int)) (out:List S25),(∀ m∈L,Mx m l0.length)→Ev (fun q=>Qr.all q l0 l1 L out) (L.foldl (stP l0 l1) out)
 | [],out,_=>Ev.congr (fun q=>rfl) (Ev.now _)
 | m::L,out,h=>by
  rw [List.foldl_cons]
  refine Ev.congr (f:=fun q=>(Qr.st q l0 l1 out m).bind fun o=>Qr.all q l0 l1 L o) (fun q=>rfl) ?_
  refine Ev.bind ?_ (qlq hs hv L _ (fun m hm=>h m (by simp [hm])))
  refine Ev.congr (f:=fun q=>(Qr.ag q l0 l1 m l1.length 0).bind fun b=>some (if b then Qr.wide (if out=[] then m.map (fun n=>⟨n,n⟩) else out) m else out)) (fun q=>by rw [Qr.st,Option.map_eq_bind];rfl) ?_
  exact Ev.bind (qsG hs hv (h m (by simp))) (Ev.now _)
theorem qbl:∀ (j:Nat) (left:Int) (b m:List Int),0≤left→(m∈G2 j left b ↔ ∃ t:List Int,m=b++t∧t.length=j+1∧(∀ x∈t,0≤x)∧t.sum=left)
 | 0,left,b,m,h=>by
  rw [G2,List.mem_singleton]
  constructor
  ·
   rintro rfl
   exact ⟨[left],rfl,rfl,by simpa using h,by simp⟩
  ·
   rintro ⟨t,rfl,hl,h0,hsum⟩
   match t,hl with
   | [x],_=>simp at hsum;rw [hsum]
 | j+1,left,b,m,h=>by
  rw [G2,List.mem_flatMap]
  constructor
  ·
   rintro ⟨x,hx,hm⟩
   rw [List.mem_range] at hx
   obtain ⟨t,rfl,hl,h0,hsum⟩:=(qbl j (left-(x:Int)) (b++[(x:Int)]) m (by omega)).1 hm
   refine ⟨(x:Int)::t,by simp,by simp [hl],?_,by simp [hsum];omega⟩
   intro y hy
   rcases List.mem_cons.1 hy with rfl|hy
   ·
    omega
   ·
    exact h0 y hy
  ·
   rintro ⟨t,rfl,hl,h0,hsum⟩
   match t,hl with
   | x::t,hl =>
    have hx0:0≤x:=h0 x (by simp)
    have ht0:0≤t.sum:=by
     have:∀ t:List Int,(∀ x∈t,0≤x)→0≤t.sum:=by
      intro t
      induction t with
      | nil=>intro _;simp
      | cons y t ih =>
       intro h;have:=ih (fun z hz=>h z (by simp [hz]));have:=h y (by simp)
       simp
       omega
     exact this t (fun y hy=>h0 y (by simp [hy]))
    rw [List.sum_cons] at hsum;refine ⟨x.toNat,by rw [List.mem_range];omega,?_⟩;rw [qbl j _ _ _ (by omega)];refine ⟨t,?_,by simpa using hl,fun y hy=>h0 y (by simp [hy]),by omega⟩;rw [Int.toNat_of_nonneg hx0]
    simp
theorem qic:∀ (t:List Int),(∀ x∈t,0≤x) → ∀ x∈t,x≤t.sum
 | [],_,x,hx=>by simp at hx
 | y::t,h,x,hx=>by
  have h1:0≤t.sum:=by
   match t with
   | []=>simp
   | z::t=>exact Int.le_trans (h z (by simp)) (qic (z::t) (fun w hw=>h w (by simp [hw])) z (by simp))
  rw [List.sum_cons]
  rcases List.mem_cons.1 hx with rfl|hx
  ·
   omega
  ·
   have:=qic t (fun w hw=>h w (by simp [hw])) x hx
   have:=h y (by simp)
   omega
theorem qd1 {n:Nat} (hn:1≤n) {m:List Int}:m∈G2 (n-1) 100 []↔m.length=n∧(∀ x∈m,0≤x)∧m.sum=100:=by
 rw [qbl _ _ _ _ (by decide)]
 constructor
 ·
  rintro ⟨t,rfl,hl,h0,h1⟩
  exact ⟨by first|omega|(simp;omega),by simpa using h0,by simpa using h1⟩
 ·
  rintro ⟨hl,h0,h1⟩
  exact ⟨m,rfl,by omega,h0,h1⟩
theorem qa0 {n:Nat} (hn:1≤n) {m:List Int} (h:m∈G2 (n-1) 100 []):Mx m n:=by
 obtain ⟨hl,h0,h1⟩:=(qd1 hn).1 h
 refine ⟨hl,fun r hr => ?_,fun r hr => ?_⟩
 ·
  rw [rdN m r (by omega)];exact h0 _ (List.getElem_mem _)
 ·
  rw [rdN m r (by omega),← h1];exact qic m h0 _ (List.getElem_mem _)
def shOk (l0:List (List S25)) (l1:List S25):Bool:=wi (l0.length:Int) 1 3&&areS (l1.length:Int) l1&&l0.all (areS (l1.length:Int))
def shO (l0:List (List S25)) (l1:List S25):List S25:=(G2 (l0.length-1) 100 []).foldl (stP l0 l1) []
def shT (l0:List (List S25)) (l1:List S25):List S25 × Int:=if shOk l0 l1 then (if shO l0 l1=[] then ([],4) else (shO l0 l1,0)) else ([],91)
theorem Wx {l0:List (List S25)} {l1:List S25} (h:shOk l0 l1=true):Sg l0 l1.length∧l1.all spS=true:=by
 unfold shOk at h
 rw [Bool.and_eq_true,Bool.and_eq_true] at h
 have h2:=h.1.2
 unfold areS at h2
 rw [Bool.and_eq_true,Bool.and_eq_true] at h2
 exact ⟨Sg.of h.1.1 h2.1.1 h.2,h2.2⟩
theorem qdX (l0:List (List S25)) (l1:List S25) (h0:∀ x∈l0,x.length≤9223372036854775807) (h1:l1.length≤9223372036854775807):Ev (fun q=>Qr.f q l0 l1) (shT l0 l1):=by
 refine Ev.congr (f:=fun q=>((if wi (l0.length:Int) 1 3 then QE.f q l1 (l1.length:Int) else some false).bind fun b1=>(Qr.sg q (l1.length:Int) l0 b1).bind fun ok=>if ok then (Qr.all q l0 l1 (G2 (l0.length-1) 100 []) []).map fun out=>if out=[] then ([],4) else (out,0) else some ([],91))) (fun q=>by rw [Qr.f,qbL,Option.bind_some]) ?_
 have hB:Ev (fun q=>if wi (l0.length:Int) 1 3 then QE.f q l1 (l1.length:Int) else some false) (wi (l0.length:Int) 1 3&&areS (l1.length:Int) l1):=by
  cases hw:wi (l0.length:Int) 1 3 with
  | false=>exact Ev.now _
  | true=>exact Ev.congr (fun q=>rfl) (qbA l1 _ h1)
 refine Ev.bind hB (Ev.bind (qmu _ l0 _ h0) ?_)
 cases hok:shOk l0 l1 with
 | false =>
  have e:(wi (l0.length:Int) 1 3&&areS (l1.length:Int) l1&&l0.all (areS (l1.length:Int)))=false:=hok
  rw [e,shT,hok]
  exact Ev.now _
 | true =>
  have e:(wi (l0.length:Int) 1 3&&areS (l1.length:Int) l1&&l0.all (areS (l1.length:Int)))=true:=hok
  obtain ⟨hs,hv⟩:=Wx hok
  rw [e,shT,hok,if_pos rfl]
  refine Ev.congr (f:=fun q=>(Qr.all q l0 l1 (G2 (l0.length-1) 100 []) []).bind fun out=>some (if out=[] then ([],4) else (out,0))) (fun q=>by rw [if_pos rfl,Option.map_eq_bind];rfl) ?_
  exact Ev.bind (qlq hs hv _ _ (fun m hm=>qa0 hs.r1 hm)) (Ev.now _)
def Fo (n:Nat) (A:List Int→Prop) (L:List (List Int)) (out:List S25):Prop :=
 (out=[] ∧ ∀ m∈L,¬A m)∨(out.length=n∧(∃ m∈L,A m) ∧ ∀ r:Nat,r<n→(∀ m∈L,A m→(Qo out (r:Int)).f0≤rd m (r:Int)∧rd m (r:Int)≤(Qo out (r:Int)).f1)∧(∃ m∈L,A m∧rd m (r:Int)=(Qo out (r:Int)).f0)∧(∃ m∈L,A m∧rd m (r:Int)=(Qo out (r:Int)).f1))
theorem qjH (o:List S25) (m:List Int) (h:o.length=m.length):(Qr.wide o m).length=o.length:=by simp [Qr.wide,h]
theorem qjI (o:List S25) (m:List Int) (r:Nat) (h0:r<o.length) (h1:r<m.length):Qo (Qr.wide o m) (r:Int)=⟨if rd m (r:Int)<(Qo o (r:Int)).f0 then rd m (r:Int) else (Qo o (r:Int)).f0,if (Qo o (r:Int)).f1<rd m (r:Int) then rd m (r:Int) else (Qo o (r:Int)).f1⟩:=by
 rw [qdH (Qr.wide o m) r (by simp [Qr.wide];omega),qdH o r h0,rdN m r h1]
 simp [Qr.wide]
theorem qiQ (l0:List (List S25)) (l1:List S25) (n:Nat) (hn:1≤n):∀ (L L':List (List Int)) (out:List S25),(∀ m∈L,m.length=n)→Fo n (fun m=>agB l0 l1 m=true) L' out→Fo n (fun m=>agB l0 l1 m=true) (L'++L) (L.foldl (stP l0 l1) out)
 | [],L',out,_,h=>by simpa using h
 | m::L,L',out,hL,h=>by
  have hm:m.length=n:=hL m (by simp)
  rw [List.foldl_cons,show L'++m::L=(L'++[m])++L by simp]
  refine qiQ l0 l1 n hn L (L'++[m]) _ (fun x hx=>hL x (by simp [hx])) ?_
  rw [stP]
  cases ha:agB l0 l1 m with
  | false =>
   rw [if_neg (by decide)]
   rcases h with ⟨e,h⟩|⟨e,⟨q,hq,hq2⟩,h⟩
   ·
    refine .inl ⟨e,fun x hx => ?_⟩
    rcases List.mem_append.1 hx with hx|hx
    ·
     exact h x hx
    ·
     rw [List.mem_singleton.1 hx];intro hc;rw [ha] at hc;exact absurd hc (by decide)
   ·
    refine .inr ⟨e,⟨q,by simp [hq],hq2⟩,fun r hr => ?_⟩;obtain ⟨h1,⟨x,hx,hx2⟩,⟨y,hy,hy2⟩⟩:=h r hr;refine ⟨fun z hz hA => ?_,⟨x,by simp [hx],hx2⟩,⟨y,by simp [hy],hy2⟩⟩
    rcases List.mem_append.1 hz with hz|hz
    ·
     exact h1 z hz hA
    ·
     rw [List.mem_singleton.1 hz,ha] at hA;exact absurd hA (by decide)
  | true =>
   rw [if_pos rfl]
   rcases h with ⟨e,h⟩|⟨e,⟨q,hq,hq2⟩,h⟩
   ·
    rw [if_pos e]
    have hl:(m.map (fun n=>(⟨n,n⟩:S25))).length=m.length:=by simp
    refine .inr ⟨by rw [qjH _ _ hl,hl,hm],⟨m,by simp,ha⟩,fun r hr => ?_⟩
    have hv:Qo (Qr.wide (m.map (fun n=>(⟨n,n⟩:S25))) m) (r:Int)=⟨rd m (r:Int),rd m (r:Int)⟩:=by
     rw [qjI _ _ r (by omega) (by omega),qdH _ r (by omega),rdN m r (by omega)]
     simp
    rw [hv];refine ⟨fun z hz hA => ?_,⟨m,by simp,ha,rfl⟩,⟨m,by simp,ha,rfl⟩⟩
    rcases List.mem_append.1 hz with hz|hz
    ·
     exact absurd hA (h z hz)
    ·
     rw [List.mem_singleton.1 hz];exact ⟨Int.le_refl _,Int.le_refl _⟩
   ·
    have hne:out≠[]:=by rintro rfl;simp at e;omega
    rw [if_neg hne];refine .inr ⟨by rw [qjH _ _ (by omega),e],⟨m,by simp,ha⟩,fun r hr => ?_⟩;obtain ⟨h1,⟨x,hx,hx2,hx3⟩,⟨y,hy,hy2,hy3⟩⟩:=h r hr;have hq3:=h1 q hq hq2;rw [qjI out m r (by omega) (by omega)];obtain ⟨s,hs⟩:∃ s,Qo out (r:Int)=s:=⟨_,rfl⟩;rw [hs] at h1 hx3 hy3 hq3 ⊢;refine ⟨fun z hz hA => ?_,?_,?_⟩
    ·
     rcases List.mem_append.1 hz with hz|hz
     ·
      have:=h1 z hz hA
      dsimp only
      split<;>split<;>omega
     ·
      rw [List.mem_singleton.1 hz]
      dsimp only
      split<;>split<;>omega
    ·
     dsimp only
     by_cases c:rd m (r:Int)<s.f0
     ·
      exact ⟨m,by simp,ha,by rw [if_pos c]⟩
     ·
      exact ⟨x,by simp [hx],hx2,by rw [if_neg c];exact hx3⟩
    ·
     dsimp only
     by_cases c:s.f1<rd m (r:Int)
     ·
      exact ⟨m,by simp,ha,by rw [if_pos c]⟩
     ·
      exact ⟨y,by simp [hy],hy2,by rw [if_neg c];exact hy3⟩
theorem qdm (l0:List (List S25)) (l1:List S25) (h1:1≤l0.length):Fo l0.length (fun m=>agB l0 l1 m=true) (G2 (l0.length-1) 100 []) (shO l0 l1):=by
 have:=qiQ l0 l1 l0.length h1 (G2 (l0.length-1) 100 []) [] [] (fun m hm=>(qa0 h1 hm).ln) (.inl ⟨rfl,by simp⟩)
 simpa [shO] using this
end
section
theorem qks {l0:List (List S25)} {l1:List S25} (hs:Sg l0 l1.length):Ev (fun k=>Qq.f k l0 l1) true:=by
 have h3:=hs.r3
 have h6:=hs.n6
 have r1:=hs.r1
 have n1:=hs.n1
 have inner:∀ (r:Nat),r<l0.length→Ev (fun k=>Qq.l0 k l0 l1 true ((r+1:Nat):Int)) true → ∀ (d i:Nat),i+d=l1.length→Ev (fun k=>Qq.l1 k l0 l1 true (r:Int) (i:Int)) true:=by
  intro r hr hE d
  have hwr:=wr1 r l0.length hr (by omega)
  have gr:(r:Int)<(l0.length:Int):=Int.ofNat_lt.2 hr
  have gr0:(0:Int)≤(r:Int):=Int.natCast_nonneg r
  induction d with
  | zero =>
   intro i hi
   refine Ev.step (f:=fun k=>Qq.l0 k l0 l1 true ((r+1:Nat):Int)) (fun k => ?_) hE
   simp only [Qq.l1,hwr]
   rw [if_pos trivial,if_neg (by omega)]
  | succ d ih =>
   intro i hi
   have hlt:i<l1.length:=by omega
   have hw:=wr1 i l1.length hlt (by omega)
   have hln:=hs.ln r hr
   have hsp:=hs.sp r i hr hlt
   have e:sp (Qo (Yx l0 (r:Int)) (i:Int)).f0 (Qo (Yx l0 (r:Int)) (i:Int)).f1 100=true:=by unfold sp;exact decide_eq_true hsp
   refine Ev.step (f:=fun k=>Qq.l1 k l0 l1 true (r:Int) ((i+1:Nat):Int)) (fun k => ?_) (ih (i+1) (by omega))
   simp only [Qq.l1,qeg,Option.bind_some,hw]
   rw [if_pos trivial,if_pos (by omega),if_pos gr0,if_pos gr,if_pos (by omega),if_pos (by omega),e]
 have outer:∀ (d r:Nat),r+d=l0.length→Ev (fun k=>Qq.l0 k l0 l1 true (r:Int)) true:=by
  intro d
  induction d with
  | zero =>
   intro r hr
   refine Ev.step (f:=fun k=>Qq.j2 k l0 l1 true (r:Int) false) (fun k => ?_) ?_
   ·
    simp only [Qq.l0];rw [if_pos trivial,decide_eq_false (by omega)]
   ·
    refine Ev.step (f:=fun _=>some true) (fun k => ?_) (Ev.now _)
    simp [Qq.j2]
  | succ d ih =>
   intro r hr
   have hlt:r<l0.length:=by omega
   have hln:=hs.ln r hlt
   refine Ev.step (f:=fun k=>Qq.j2 k l0 l1 true (r:Int) true) (fun k => ?_) ?_
   ·
    simp only [Qq.l0];rw [if_pos trivial,decide_eq_true (by omega)]
   ·
    refine Ev.step (f:=fun k=>Qq.l1 k l0 l1 true (r:Int) ((0:Nat):Int)) (fun k => ?_) (inner r hlt (ih (r+1) (by omega)) l1.length 0 (by omega));simp only [Qq.j2];rw [if_pos trivial,if_pos (by omega),if_pos (by omega),hln]
    simp
 have e1:wi (l0.length:Int) 1 3=true:=WQ.2 ⟨by omega,by omega⟩
 have e2:wi (l1.length:Int) 1 6=true:=WQ.2 ⟨by omega,by omega⟩
 refine Ev.congr (f:=fun k=>Qq.j0 k l0 l1 true) (fun k => ?_) (Ev.step (f:=fun k=>Qq.l0 k l0 l1 true ((0:Nat):Int)) (fun k => ?_) (outer l0.length 0 (by omega)))
 ·
  simp only [Qq.f,qbV,Option.bind_some,e1,e2]
  rw [if_pos trivial]
 ·
  simp [Qq.j0]
theorem qmc (n:Nat) (h1:1≤n) (h3:n≤3) (b:List Int) (hb:b.length*8≤140737488351232):∃ m,m∈G2 (n-1) 100 []∧Ev (fun k=>Yr.f k (n:Int) b) m:=by
 have hw1:wrap64 ((n:Int)-1)=(n:Int)-1:=by unfold wrap64;omega
 have loop:∀ (d i:Nat) (x:List Int) (left:Int),i+d+1=n→x.length=i→(∀ y∈x,0≤y)→0≤left→left≤100→x.sum+left=100 → ∃ m,(m.length=n∧(∀ y∈m,0≤y)∧m.sum=100)∧Ev (fun k=>Yr.l0 k (n:Int) b x left (i:Int)) m:=by
  intro d
  induction d with
  | zero =>
   intro i x left hi hx h0 hl hl2 hs
   refine ⟨x++[left],⟨by simp;omega,?_,by simp;omega⟩,Ev.step (f:=fun _=>some (x++[left])) (fun k => ?_) (Ev.now _)⟩
   ·
    intro y hy
    rcases List.mem_append.1 hy with hy|hy
    ·
     exact h0 y hy
    ·
     rw [List.mem_singleton.1 hy];exact hl
   ·
    simp only [Yr.l0,hw1]
    rw [if_neg (by omega),if_pos (by omega)]
  | succ d ih =>
   intro i x left hi hx h0 hl hl2 hs
   have hw:=wr1 i n (by omega) (by omega)
   obtain ⟨p,ep⟩:=qmn b (i:Int) hb
   have e1:wrap64 (left+1)=left+1:=by unfold wrap64;omega
   obtain ⟨c,ec,c0,c1⟩:=modB p (left+1) (by omega) (by omega)
   have e2:wrap64 (left-c)=left-c:=by unfold wrap64;omega
   obtain ⟨m,hm,hE⟩:=ih (i+1) (x++[c]) (left-c) (by omega) (by simp;omega) (fun y hy=>by
    rcases List.mem_append.1 hy with hy|hy
    ·
     exact h0 y hy
    ·
     rw [List.mem_singleton.1 hy];exact c0) (by omega) (by omega) (by simp;omega)
   refine ⟨m,hm,Ev.step (fun k => ?_) hE⟩
   simp only [Yr.l0,hw1]
   rw [if_pos (by omega),ep,Option.bind_some,e1,ec,Option.bind_some,if_pos (by omega),e2,hw]
 obtain ⟨m,hm,hE⟩:=loop (n-1) 0 [] 100 (by omega) rfl (by simp) (by decide) (by decide) (by simp)
 exact ⟨m,(qd1 h1).2 hm,hE⟩
end
section
def shE (l0:List (List S25)) (l1:List S25):Int:=if shO l0 l1=[] then 4 else 0
theorem qmv {l0:List (List S25)} {l1:List S25} (h:shOk l0 l1=true):shT l0 l1=(shO l0 l1,shE l0 l1):=by
 unfold shT shE
 rw [h,if_pos rfl]
 by_cases c:shO l0 l1=[]
 ·
  rw [if_pos c,if_pos c,c]
 ·
  rw [if_neg c,if_neg c]
def wid (s:S25) (d:Int):S25:=⟨mx 0 (wrap64 (s.f0-d)),mn 100 (wrap64 (s.f1+d))⟩
theorem qmF {s:S25} {d:Int} (h:spS s=true) (d0:0≤d) (d1:d<10):spS (wid s d)=true∧(wid s d).f0≤s.f0∧s.f1≤(wid s d).f1:=by
 obtain ⟨h0,h1,h2⟩:=qa7.1 h
 have e0:wrap64 (s.f0-d)=s.f0-d:=by unfold wrap64;omega
 have e1:wrap64 (s.f1+d)=s.f1+d:=by unfold wrap64;omega
 rw [qa7]
 unfold wid mx mn
 rw [e0,e1]
 dsimp only
 split<;>split<;>omega
theorem qjF {X D r:Int} (u3:D≤10000*r) (r3:r≤3) (x:X≤10000):D+X≤1000000000:=by omega
section
variable (l0:List (List S25)) (l1:List S25) (b:List Int)
def Kf (i:Nat) (d:Int):List S25:=l1.set i (wid (Qo l1 (i:Int)) d)
theorem OV (i:Nat) (d:Int):(Kf l1 i d).length=l1.length:=by simp [Kf]
theorem qg4 (i:Nat) (d:Int) (k:Nat) (hk:k<l1.length):Qo (Kf l1 i d) (k:Int)=if k=i then wid (Qo l1 (k:Int)) d else Qo l1 (k:Int):=by
 rw [qdH _ k (by rw [OV];exact hk)]
 simp only [Kf,List.getElem_set]
 by_cases c:i=k
 ·
  subst c;rw [if_pos rfl,if_pos rfl]
 ·
  rw [if_neg c,if_neg (fun e=>c e.symm),qdH l1 k hk]
variable (hv:l1.all spS=true)
include hv
theorem qjz (k:Nat) (hk:k<l1.length):spS (Qo l1 (k:Int))=true:=by
 rw [qdH l1 k hk];exact List.all_eq_true.1 hv _ (List.getElem_mem hk)
theorem qmH (i:Nat) (d:Int) (d0:0≤d) (d1:d<10):(Kf l1 i d).all spS=true:=by
 rw [List.all_eq_true]
 intro x hx
 obtain ⟨k,hk,rfl⟩:=List.getElem_of_mem hx
 have hk':k<l1.length:=by rw [OV] at hk;exact hk
 have:=qg4 l1 i d k hk'
 rw [qdH _ k hk] at this
 rw [this]
 by_cases c:k=i
 ·
  rw [if_pos c];exact (qmF (qjz l1 hv k hk') d0 d1).1
 ·
  rw [if_neg c];exact qjz l1 hv k hk'
theorem qdr (i:Nat) (d:Int) (d0:0≤d) (d1:d<10) (m:List Int) (h:agB l0 l1 m=true):agB l0 (Kf l1 i d) m=true:=by
 rw [qm6] at h ⊢
 intro k hk
 have hk':k<l1.length:=by rw [OV] at hk;exact hk
 obtain ⟨h0,h1⟩:=h k hk'
 rw [qg4 l1 i d k hk']
 by_cases c:k=i
 ·
  rw [if_pos c]
  obtain ⟨_,w0,w1⟩:=qmF (qjz l1 hv k hk') d0 d1
  exact ⟨by omega,by omega⟩
 ·
  rw [if_neg c];exact ⟨h0,h1⟩
omit hv
theorem qmG (h:shOk l0 l1=true) (i:Nat) (d:Int) (d0:0≤d) (d1:d<10):shOk l0 (Kf l1 i d)=true:=by
 have hv:=(Wx h).2
 unfold shOk at h ⊢
 rw [Bool.and_eq_true,Bool.and_eq_true] at h ⊢
 rw [OV]
 refine ⟨⟨h.1.1,?_⟩,h.2⟩
 have h2:=h.1.2
 unfold areS at h2 ⊢
 rw [Bool.and_eq_true,Bool.and_eq_true] at h2 ⊢
 exact ⟨⟨h2.1.1,by rw [OV];simp⟩,qmH l1 hv i d d0 d1⟩
variable (hl:∀ x∈l0,x.length≤9223372036854775807) (hb:b.length*8≤140737488351232) (hok:shOk l0 l1=true)
include hl hb hok
theorem qgM (i:Nat) (d:Int) (d0:0≤d) (d1:d<10) (m:List Int) (hm:m∈G2 (l0.length-1) 100 []):∀ (z r:Nat),r+z=(shO l0 l1).length→Ev (fun k=>Q6.l2 k (shO l0 l1) m (agB l0 l1 m) (shO l0 (Kf l1 i d)) (r:Int)) true:=by
 obtain ⟨hs,hv⟩:=Wx hok
 have hF:=qdm l0 l1 hs.r1
 have hM:=(qa0 hs.r1 hm).ln
 have h3:=hs.r3
 have hG:∀ r:Nat,r<(shO l0 l1).length→r<l0.length∧(shO l0 (Kf l1 i d)).length=l0.length∧(Qo (shO l0 (Kf l1 i d)) (r:Int)).f0≤(Qo (shO l0 l1) (r:Int)).f0∧(Qo (shO l0 l1) (r:Int)).f1≤(Qo (shO l0 (Kf l1 i d)) (r:Int)).f1∧(agB l0 l1 m=true→wi (rd m (r:Int)) (Qo (shO l0 l1) (r:Int)).f0 (Qo (shO l0 l1) (r:Int)).f1=true):=by
  intro r hr
  rcases hF with ⟨e,_⟩|⟨e,_,h⟩
  ·
   rw [e] at hr;simp at hr
  ·
   have hr':r<l0.length:=by rw [← e];exact hr
   obtain ⟨a1,⟨x,hx,ax,ex⟩,⟨y,hy,ay,ey⟩⟩:=h r hr'
   have wx:=qdr l0 l1 hv i d d0 d1 x ax
   have wy:=qdr l0 l1 hv i d d0 d1 y ay
   rcases qdm l0 (Kf l1 i d) hs.r1 with ⟨_,g⟩|⟨g1,_,g⟩
   ·
    exact absurd wx (g x hx)
   ·
    obtain ⟨q,_,_⟩:=g r hr';refine ⟨hr',g1,?_,?_,fun ha=>WQ.2 (a1 m hm ha)⟩
    ·
     rw [← ex];exact (q x hx wx).1
    ·
     rw [← ey];exact (q y hy wy).2
 have hO3:(shO l0 l1).length≤3:=by
  rcases hF with ⟨e,_⟩|⟨e,_,_⟩
  ·
   rw [e];simp
  ·
   rw [e];exact h3
 intro z
 induction z with
 | zero =>
  intro r hr
  refine Ev.step (f:=fun _=>some true) (fun k => ?_) (Ev.now _)
  simp only [Q6.l2]
  rw [if_neg (by omega)]
  simp [ZE.f]
 | succ z ih =>
  intro r hr
  have hlt:r<(shO l0 l1).length:=by omega
  obtain ⟨g0,g1,g2,g3,g4⟩:=hG r hlt
  have f1:(r:Int)<((shO l0 l1).length:Int):=Int.ofNat_lt.2 hlt
  have f2:(0:Int)≤(r:Int):=Int.natCast_nonneg r
  have f3:(r:Int)<(m.length:Int):=by omega
  have f4:(r:Int)<((shO l0 (Kf l1 i d)).length:Int):=by omega
  have f5:=Int.not_lt.2 g2
  have f6:=Int.not_lt.2 g3
  have hw:=wr1 r (shO l0 l1).length hlt (by omega)
  refine Ev.step (f:=fun k=>Q6.l2 k (shO l0 l1) m (agB l0 l1 m) (shO l0 (Kf l1 i d)) ((r+1:Nat):Int)) (fun k => ?_) (ih (r+1) (by clear hw f5 f6 g2 g3;omega))
  simp only [Q6.l2,ZF.f,qbV,Option.bind_some,hw]
  rw [if_pos f1]
  cases ha:agB l0 l1 m with
  | true=>rw [if_pos rfl,if_pos f2,if_pos f3,g4 ha,if_pos rfl,if_pos f4,if_neg f5,if_neg f6]
  | false=>rw [if_neg (by decide),if_pos f2,if_pos f4,if_neg f5,if_neg f6]
theorem qe8 (m:List Int) (hm:m∈G2 (l0.length-1) 100 []):Ev (fun k=>Q6.j3 k l0 l1 b (shO l0 l1) (shE l0 l1) m (agB l0 l1 m) false) true:=by
 obtain ⟨hs,hv⟩:=Wx hok
 have h6:=hs.n6
 have h1:=hs.n1
 obtain ⟨p4,e4⟩:=qmn b 4 hb
 obtain ⟨p5,e5⟩:=qmn b 5 hb
 obtain ⟨t,et,t0,t1⟩:=modB p4 (l1.length:Int) (by omega) (by omega)
 obtain ⟨d,ed,d0,d1⟩:=modB p5 10 (by decide) (by decide)
 obtain ⟨i,rfl⟩:∃ i:Nat,t=(i:Int):=⟨t.toNat,by omega⟩
 have hi:i<l1.length:=by omega
 have hf:l1.length<8796093022208:=by omega
 have hok2:=qmG l0 l1 hok i d d0 d1
 have hS:=qdX l0 (Kf l1 i d) hl (by rw [OV];omega)
 rw [qmv hok2] at hS
 refine Ev.step (f:=fun k=>(Qr.f k l0 (Kf l1 i d)).bind fun Yw=>(if Yw.2=0 then (Q6.j4 k (shO l0 l1) m (agB l0 l1 m) Yw.1 ((Yw.1.length:Int) != (l0.length:Int))) else (if Yw.2=4 then (if shE l0 l1=0 then (Q6.j4 k (shO l0 l1) m (agB l0 l1 m) Yw.1 true) else (Q6.j4 k (shO l0 l1) m (agB l0 l1 m) Yw.1 false)) else (Q6.j4 k (shO l0 l1) m (agB l0 l1 m) Yw.1 true)))) (fun k => ?_) ?_
 ·
  simp only [Q6.j3,Option.bind_some,List.nil_append,List.length_nil,Nat.zero_add,QB.f]
  rw [if_neg (by decide),if_pos hf,e4,Option.bind_some,et,Option.bind_some,e5,Option.bind_some,ed,Option.bind_some,if_pos t0,if_pos t1]
  rfl
 refine Ev.bind hS ?_
 have key:Ev (fun k=>Q6.j4 k (shO l0 l1) m (agB l0 l1 m) (shO l0 (Kf l1 i d)) false) true:=by
  refine Ev.step (f:=fun k=>Q6.l2 k (shO l0 l1) m (agB l0 l1 m) (shO l0 (Kf l1 i d)) ((0:Nat):Int)) (fun k => ?_) (qgM l0 l1 b hl hb hok i d d0 d1 m hm _ 0 (Nat.zero_add _))
  simp [Q6.j4]
 rcases qdm l0 (Kf l1 i d) hs.r1 with ⟨e,g⟩|⟨e,_,_⟩
 ·
  have hE:shE l0 (Kf l1 i d)=4:=by rw [shE,if_pos e]
  have hE2:shE l0 l1=4:=by
   rcases qdm l0 l1 hs.r1 with ⟨e2,_⟩|⟨_,⟨x,hx,ax⟩,_⟩
   ·
    rw [shE,if_pos e2]
   ·
    exact absurd (qdr l0 l1 hv i d d0 d1 x ax) (g x hx)
  refine Ev.congr (fun k => ?_) key
  dsimp only
  rw [hE,hE2,if_neg (by decide),if_pos rfl,if_neg (by decide)]
 ·
  have hne:shO l0 (Kf l1 i d)≠[]:=by intro c;rw [c] at e;have:=hs.r1;simp at e;omega
  have hE:shE l0 (Kf l1 i d)=0:=by rw [shE,if_neg hne]
  refine Ev.congr (fun k => ?_) key
  dsimp only
  rw [hE,if_pos rfl,e]
  simp
theorem qe6 (m:List Int) (hm:m∈G2 (l0.length-1) 100 []) (i:Nat) (hi:i<l1.length) (c:Bool)
  (hE:Ev (fun k=>Q6.l0 k l0 l1 b (shO l0 l1) (shE l0 l1) m (c&&(decide (dl S25.f0 m l0 (i:Int) l0.length≤100*(Qo l1 (i:Int)).f1)&&decide (100*(Qo l1 (i:Int)).f0≤dl S25.f1 m l0 (i:Int) l0.length))) ((i+1:Nat):Int)) true) :
  ∀ (d r:Nat),r+d=l0.length→Ev (fun k=>Q6.l1 k l0 l1 b (shO l0 l1) (shE l0 l1) m c (i:Int) (r:Int) (dl S25.f0 m l0 (i:Int) r) (dl S25.f1 m l0 (i:Int) r)) true:=by
 obtain ⟨hs,hv⟩:=Wx hok
 have h3:=hs.r3
 have h6:=hs.n6
 have hM:=qa0 hs.r1 hm
 have hML:=hM.ln
 have gi0:(0:Int)≤(i:Int):=Int.natCast_nonneg i
 have gi1:(i:Int)<(l1.length:Int):=Int.ofNat_lt.2 hi
 have hx:=qa7.1 (qjz l1 hv i hi)
 intro d
 induction d with
 | zero =>
  intro r hr
  have hr':r=l0.length:=by omega
  subst hr'
  have hwi:=wr1 i l1.length hi (by clear hx hE;omega)
  have w0:wrap64 (100*(Qo l1 (i:Int)).f0)=100*(Qo l1 (i:Int)).f0:=w64s (Int.mul_nonneg (by decide) hx.1) (by clear hwi;omega)
  have w1:wrap64 (100*(Qo l1 (i:Int)).f1)=100*(Qo l1 (i:Int)).f1:=w64s (Int.mul_nonneg (by decide) (Int.le_trans hx.1 hx.2.1)) (by clear hwi w0;omega)
  refine Ev.step (fun k => ?_) hE
  simp only [Q6.l1,hwi]
  rw [if_neg (Int.lt_irrefl _),w0,w1]
  cases c with
  | false=>rw [if_neg (by decide)];rfl
  | true =>
   rw [if_pos rfl,if_pos gi0,if_pos gi1,Bool.true_and]
   by_cases c0:dl S25.f0 m l0 (i:Int) l0.length≤100*(Qo l1 (i:Int)).f1
   ·
    rw [if_pos c0,decide_eq_true c0,Bool.true_and]
   ·
    rw [if_neg c0,decide_eq_false c0,Bool.false_and]
 | succ d ih =>
  intro r hr
  have hlt:r<l0.length:=by omega
  have hl3:=hs.ln r hlt
  have hsp:=hs.sp r i hlt hi
  have f1:(r:Int)<(l0.length:Int):=Int.ofNat_lt.2 hlt
  have f2:(0:Int)≤(r:Int):=Int.natCast_nonneg r
  have f3:(r:Int)<(m.length:Int):=by clear hsp hx;omega
  have f4:(i:Int)<((Yx l0 (r:Int)).length:Int):=by clear hsp hx;omega
  have f5:r≤l0.length:=by clear hsp hx;omega
  have f6:(r+1)+d=l0.length:=by clear hsp hx;omega
  have f7:(r:Int)≤3:=by clear hsp hx;omega
  have u0:=hM.lo r hlt
  have u1:=hM.hi r hlt
  have u2:=dl_b hs hM S25.f0 (fun r k hr hk=>⟨(hs.sp r k hr hk).1,Int.le_trans (hs.sp r k hr hk).2.1 (hs.sp r k hr hk).2.2⟩) i hi r f5
  have u3:=dl_b hs hM S25.f1 (fun r k hr hk=>⟨Int.le_trans (hs.sp r k hr hk).1 (hs.sp r k hr hk).2.1,(hs.sp r k hr hk).2.2⟩) i hi r f5
  have u4:=qjB u0 u1 hsp.1 (Int.le_trans hsp.2.1 hsp.2.2)
  have u5:=qjB u0 u1 (Int.le_trans hsp.1 hsp.2.1) hsp.2.2
  have hw:=wr1 r l0.length hlt (by clear hsp hx u0 u1 u2 u3 u4 u5;omega)
  have e1:wrap64 (rd m (r:Int)*(Qo (Yx l0 (r:Int)) (i:Int)).f0)=rd m (r:Int)*(Qo (Yx l0 (r:Int)) (i:Int)).f0:=w64s u4.1 (Int.le_trans u4.2 (by decide))
  have e2:wrap64 (rd m (r:Int)*(Qo (Yx l0 (r:Int)) (i:Int)).f1)=rd m (r:Int)*(Qo (Yx l0 (r:Int)) (i:Int)).f1:=w64s u5.1 (Int.le_trans u5.2 (by decide))
  have e3:wrap64 (dl S25.f0 m l0 (i:Int) r+rd m (r:Int)*(Qo (Yx l0 (r:Int)) (i:Int)).f0)=dl S25.f0 m l0 (i:Int) (r+1):=by rw [dl];exact w64s (Int.add_nonneg u2.1 u4.1) (qjF u2.2 f7 u4.2)
  have e4:wrap64 (dl S25.f1 m l0 (i:Int) r+rd m (r:Int)*(Qo (Yx l0 (r:Int)) (i:Int)).f1)=dl S25.f1 m l0 (i:Int) (r+1):=by rw [dl];exact w64s (Int.add_nonneg u3.1 u5.1) (qjF u3.2 f7 u5.2)
  refine Ev.step (fun k => ?_) (ih (r+1) f6)
  simp only [Q6.l1,QB.f,Option.bind_some,hw]
  rw [if_pos f1,if_pos f2,if_pos f3,if_pos gi0,if_pos f4,e1,e2,e3,e4]
theorem qe7 (m:List Int) (hm:m∈G2 (l0.length-1) 100 []):∀ (d i:Nat),i+d=l1.length→Ev (fun k=>Q6.l0 k l0 l1 b (shO l0 l1) (shE l0 l1) m ((List.range i).all fun k:Nat=>decide (dl S25.f0 m l0 (k:Int) l0.length≤100*(Qo l1 (k:Int)).f1)&&decide (100*(Qo l1 (k:Int)).f0≤dl S25.f1 m l0 (k:Int) l0.length)) (i:Int)) true:=by
 obtain ⟨hs,hv⟩:=Wx hok
 intro d
 induction d with
 | zero =>
  intro i hi
  have hi':i=l1.length:=by omega
  subst hi'
  refine Ev.step (fun k => ?_) (qe8 l0 l1 b hl hb hok m hm)
  simp only [Q6.l0]
  rw [if_neg (Int.lt_irrefl _)]
  rcases qdm l0 l1 hs.r1 with ⟨e,g⟩|⟨e,_,_⟩
  ·
   have hE:shE l0 l1=4:=by rw [shE,if_pos e]
   have hag:agB l0 l1 m=false:=Bool.eq_false_iff.2 (g m hm)
   have qtp:=hag
   unfold agB at qtp
   rw [hE,if_neg (by decide),qtp,if_neg (by decide),e,hag]
   rfl
  ·
   have hne:shO l0 l1≠[]:=by intro c;rw [c] at e;have:=hs.r1;simp at e;omega
   have hE:shE l0 l1=0:=by rw [shE,if_neg hne]
   rw [hE,if_pos rfl,e]
   simp [agB]
 | succ d ih =>
  intro i hi
  have hlt:i<l1.length:=by omega
  have h:=ih (i+1) (by omega)
  rw [List.range_succ,List.all_append,List.all_cons,List.all_nil,Bool.and_true] at h
  refine Ev.step (f:=fun k=>Q6.l1 k l0 l1 b (shO l0 l1) (shE l0 l1) m ((List.range i).all fun k:Nat=>decide (dl S25.f0 m l0 (k:Int) l0.length≤100*(Qo l1 (k:Int)).f1)&&decide (100*(Qo l1 (k:Int)).f0≤dl S25.f1 m l0 (k:Int) l0.length)) (i:Int) ((0:Nat):Int) (dl S25.f0 m l0 (i:Int) 0) (dl S25.f1 m l0 (i:Int) 0)) (fun k => ?_) (qe6 l0 l1 b hl hb hok m hm i hlt _ h l0.length 0 (by omega))
  simp only [Q6.l0,QB.f,Option.bind_some]
  rw [if_pos (Int.ofNat_lt.2 hlt)]
  rfl
end
theorem StockSpread (l0:List (List S25)) (l1:List S25) (b:List Int) (hl:l0.length*24≤140737488351232) (hp:l0.length*24≤140737488351232 ∧ ∀ x∈l0,x.length*16≤140737488351232 ∧ ∀ y∈x,W25 y) (hl1:l1.length*16≤140737488351232) (hp1:∀ x∈l1,W25 x) (hb:b.length*8≤140737488351232) (hbp:∀ x∈b,Wf x):∃ k,Q6.f k l0 l1 b=some true:=by
 have hl':∀ x∈l0,x.length≤9223372036854775807:=fun x hx=>by have:=(hp.2 x hx).1;omega
 refine Ev.rounds (Ev.bind (qdX l0 l1 hl' (by omega)) ?_)
 cases hok:shOk l0 l1 with
 | false =>
  refine Ev.step (f:=fun _=>some true) (fun k => ?_) (Ev.now _)
  simp [shT,hok,Q6.j0,ZE.f]
 | true =>
  obtain ⟨hs,hv⟩:=Wx hok
  rw [qmv hok]
  obtain ⟨m,hm,hE⟩:=qmc l0.length hs.r1 hs.r3 b hb
  have hEE:shE l0 l1=0∨shE l0 l1=4:=by unfold shE;split<;>simp
  refine Ev.congr (f:=fun k=>(Qq.f k l0 l1).bind fun qmz=>(Q6.j0 k l0 l1 b (shO l0 l1) (shE l0 l1) (!qmz))) (fun k=>by rcases hEE with h|h<;>simp [h]) ?_
  refine Ev.bind (qks hs) ?_
  refine Ev.step (f:=fun k=>(Yr.f k (l0.length:Int) b).bind fun Z2=>(Q6.l0 k l0 l1 b (shO l0 l1) (shE l0 l1) Z2 true ((0:Nat):Int))) (fun k => ?_) (Ev.bind hE (qe7 l0 l1 b hl' hb hok m hm l1.length 0 (by omega)))
  simp [Q6.j0]
end
section
theorem qbK {H:Type} {P:Program} {e:TypeId} {d:DataW H} {n:Nat}:∀ {L:List (DataW H)},d∈L→n∈d.weights P e→n∈DataW.weightsAll P e L
 | [],h,_=>by simp at h
 | y::L,h,hn=>by
  rw [DataW.weightsAll,List.mem_append]
  rcases List.mem_cons.1 h with rfl|h
  ·
   exact .inl hn
  ·
   exact .inr (qbK h hn)
def XP {α:Type} (d:Kd α) (t:TypeId) (p:α→Prop):Prop:=∀ (H:Type) (enc:TypeId × Value→H) (w:World) (fuel:Nat) (cs:List Value) (x:DataW H × List MemPlace),
 DataW.trod enc Try.prog w 0 (fun _=>true) true fuel t cs=some x→(∀ n∈x.1.weights Try.prog t,n≤reachBytes) → ∃ a,d.K w a cs∧p a
theorem Wk.z {α:Type} {d:Kd α} {t:TypeId} {p:α→Prop} (h:Wk d t p):XP d t p:=fun H enc w fuel cs x hf _=>h H enc w fuel cs x hf
theorem qa3 {α:Type} {d:Kd α} {e e' t:TypeId} {p:α→Prop} (B:Nat) (h:XP d e p) (ht:Try.prog.underlying t=some (.slice e)) (hc:Try.prog.cellsOf e=d.sz) (hB:Try.prog.bytesOf e=B):XP (Kd.slice e' d) t (fun xs=>xs.length*B≤140737488351232 ∧ ∀ x∈xs,p x):=fun H enc w fuel cs x hf hw=>by
 rcases Deep.open_slice ht hf with ⟨rfl,_⟩|⟨a,len,cap,m,n,D,Pl,rfl,_,hl,hm,hmm,hxx,hx⟩
 ·
  exact ⟨[],⟨none,0,rfl,Nat.le_refl _,Kd.C_nil d w⟩,by simp,fun x hx=>by simp at hx⟩
 ·
  subst hxx
  have hws:=hw
  simp only [DataW.weights,ht] at hws
  have hwl:(len+(m-len))*B≤reachBytes:=by
   have:=hws _ (List.mem_cons_self ..)
   rw [hB] at this
   simpa using this
  have hlb:len*B≤140737488351232:=by
   have hrb:reachBytes=140737488351232:=by decide
   rw [hrb] at hwl
   exact Nat.le_trans (Nat.mul_le_mul_right _ (by omega)) hwl
  have each:∀ i,i<len → ∃ z:α,(∃ c,c.length=d.sz∧d.K w z c ∧ ∀ j u,c[j]? = some u→w.cell? (a.add (i*d.sz+j))=some u)∧p z:=fun i hi=>by
   obtain ⟨cs',h1,h2⟩:=hx i (by simp only [if_true] at hmm;omega)
   obtain ⟨z,hz,hp⟩:=h H enc w n cs' _ h2 (fun q hq=>hws q (List.mem_cons_of_mem _ (List.mem_append.2 (.inl (qbK (List.mem_map.2 ⟨i,List.mem_range.2 hi,rfl⟩) hq)))))
   obtain ⟨_,hcl,hat⟩:=World.cells?_some h1
   refine ⟨z,⟨cs',d.K_len hz,hz,fun j u hu => ?_⟩,hp⟩
   have hj:j<cs'.length:=(List.getElem?_eq_some_iff.1 hu).1
   rw [d.K_len hz] at hj
   have hj':j<Try.prog.cellsOf e:=by rw [hc];exact hj
   have h3:=hat j hj'
   rw [Deep.add_add,hc] at h3
   rw [h3]
   exact hu
  by_cases h0:len=0
  ·
   subst h0
   exact ⟨[],⟨some a,cap,rfl,by simp,⟨rfl,by simp,fun hh=>by simp at hh⟩⟩,by simp,fun x hx=>by simp at hx⟩
  ·
   obtain ⟨z0,_⟩:=each 0 (by omega)
   have inst:Inhabited α:=⟨z0⟩
   obtain ⟨f,hfz⟩:=Deep.choose_lt each
   have hmx:cap≤9223372036854775807:=by unfold maxLen at hm;omega
   refine ⟨(List.range len).map f,⟨some a,cap,by simp,by simpa using hl,⟨rfl,by simp;omega,fun _=>⟨a,rfl,fun j q hj => ?_⟩⟩⟩,by simpa using hlb,fun x hx => ?_⟩
   ·
    have hj2:j<len:=by have:=(List.getElem?_eq_some_iff.1 hj).1;simpa using this
    rw [List.getElem?_map,List.getElem?_range hj2] at hj
    injection hj with hj
    subst hj;obtain ⟨c,c1,c2,c3⟩:=(hfz j hj2).1
    exact ⟨c,c1,c2,c3⟩
   ·
    obtain ⟨i,hi,rfl⟩:=List.mem_map.1 hx
    exact (hfz i (List.mem_range.1 hi)).2
theorem qe3:XP (Kd.slice 32 (Kd.slice 25 k25)) 31 (fun l=>l.length*24≤140737488351232 ∧ ∀ x∈l,x.length*16≤140737488351232 ∧ ∀ y∈x,W25 y) :=
 qa3 24 (qa3 16 qgD.z Try.underlying32 c25 (by kernel_rfl)) Try.underlying31 c32 (by kernel_rfl)
section
variable {H:Type} {enc:TypeId × Value→H} {W:World} {d:DataW H} {ps:List MemPlace}
theorem qhe {α:Type} {k:Kd α} {t e':TypeId} {p:List α→Prop} (hr:XP (Kd.slice e' k) t p) {a:Option Addr} {len cap:Nat} {ts:List TypeId} {ds:List (DataW H)} {j:Nat}
  (hsz:(DataW.weightsEach Try.prog ts ds).all (· ≤ reachBytes)=true) (ht:ts[j]? = some t) (hd:ds[j]? = some d) (h:DataW.Trod enc Try.prog W 0 (fun _=>true) true t (.slice a len cap) d ps) :
  ∃ l:List α,len=l.length∧Kd.C k W a l.length l∧l.length≤cap∧p l:=by
 obtain ⟨fuel,hf⟩:=h
 obtain ⟨l,⟨A,c,e1,hc,hC⟩,hp⟩:=hr H enc W fuel _ _ hf (fun n hn=>by
  have:=List.all_eq_true.1 hsz n (DataW.weights_mem_each ht hd n hn)
  simpa using this)
 replace e1:[Value.slice a len cap]=[Value.slice A l.length c]:=e1
 injection e1 with e1
 injection e1 with e1 e2 e3
 subst e1 e2 e3
 exact ⟨l,rfl,hC,hc,hp⟩
end
end
end Go.Proofs.Ytmhomdohhihlcaa.P
