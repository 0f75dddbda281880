/- What the statement StockMixed leans on, part 5 of 6: contracts of the program's functions; conditions: none. -/
import Derived.Deep.RegionHeld3
import Derived.Deep.Slices
import Derived.ChangeSame
import Derived.OpenShut
import Derived.SizedLaws
import Derived.Lib.SmallJoins
import Derived.Test.YtmhomdohhihlcaaStockMixedx0
import Derived.Test.YtmhomdohhihlcaaStockMixedx1
import Derived.Test.YtmhomdohhihlcaaStockMixedx2
import Derived.Test.YtmhomdohhihlcaaStockMixedx3
set_option linter.unusedVariables false
set_option linter.unusedSimpArgs false
set_option linter.constructorNameAsVariable false
set_option linter.unusedSectionVars false
namespace Go.Proofs.Ytmhomdohhihlcaa.P
open Go.RowKit Go.Proofs.YtmhomdohhihlcaaW.PrintWords Go.Proofs.YtmhomdohhihlcaaW.PrintLast Go.Proofs.YtmhomdohhihlcaaW.PrintMore
section
attribute [local go_sem] YF YH YY YZ Yq Yr YG YI
def G8.f  : Option ((List (List Int))):=some (([(([0,1]:List Int)),(([1,2]:List Int)),(([2,3]:List Int))]:List (List Int)))
set_option maxHeartbeats 8000000 in
set_option maxRecDepth 100000 in
theorem G8.calls  (r:List (List Int)) (w:World) (h:G8.f  = some r) :
  Calls Try.prog 63 #[] w fun e w' => ∃ v0_:Value,e = .returned (v0_)∧Kd.N (Kd.slice 3 (Kd.int .i64)) 37 w' w.heap.size (fun k_=>(w.heap.size≤k_)) v0_ r∧Below w.heap.size w w':=by
 have HB:=Q0.mk (Below.refl w.heap.size w)
 have H:(some (([(([0,1]:List Int)),(([1,2]:List Int)),(([2,3]:List Int))]:List (List Int))))=some r:=h
 clear h
 obtain ⟨qgo,qfA⟩:∃ y_:List Int,y_=(([0,1]:List Int)):=⟨_,rfl⟩
 replace H:(some (([qgo,(([1,2]:List Int)),(([2,3]:List Int))]:List (List Int))))=some r:=by first|(rw [qfA];with_reducible exact H)|(have H2_:=(Option.bind_some _ _).symm.trans H;rw [qfA];with_reducible exact H2_)|(have H2_:=(Option.bind_some _ _).symm.trans H;with_reducible exact H2_)|with_reducible exact H|(rw [qfA];exact H)|exact H
 have qoV:=Q0.mk qfA
 clear qfA
 obtain ⟨qhJ,qfB⟩:∃ y_:List Int,y_=(([1,2]:List Int)):=⟨_,rfl⟩
 replace H:(some (([qgo,qhJ,(([2,3]:List Int))]:List (List Int))))=some r:=by first|(rw [qfB];with_reducible exact H)|(have H2_:=(Option.bind_some _ _).symm.trans H;rw [qfB];with_reducible exact H2_)|(have H2_:=(Option.bind_some _ _).symm.trans H;with_reducible exact H2_)|with_reducible exact H|(rw [qfB];exact H)|exact H
 have qoW:=Q0.mk qfB
 clear qfB
 obtain ⟨qkc,qfC⟩:∃ y_:List Int,y_=(([2,3]:List Int)):=⟨_,rfl⟩
 replace H:(some (([qgo,qhJ,qkc]:List (List Int))))=some r:=by first|(rw [qfC];with_reducible exact H)|(have H2_:=(Option.bind_some _ _).symm.trans H;rw [qfC];with_reducible exact H2_)|(have H2_:=(Option.bind_some _ _).symm.trans H;with_reducible exact H2_)|with_reducible exact H|(rw [qfC];exact H)|exact H
 have qoX:=Q0.mk qfC
 clear qfC
 obtain ⟨qBx,qfD⟩:∃ y_:List (List Int),y_=(([qgo,qhJ,qkc]:List (List Int))):=⟨_,rfl⟩
 replace H:(some qBx)=some r:=by first|(rw [qfD];with_reducible exact H)|(have H2_:=(Option.bind_some _ _).symm.trans H;rw [qfD];with_reducible exact H2_)|(have H2_:=(Option.bind_some _ _).symm.trans H;with_reducible exact H2_)|with_reducible exact H|(rw [qfD];exact H)|exact H
 have qoY:=Q0.mk qfD
 clear qfD
 obtain rfl:=Option.some.inj H
 go_enter Try.func63,Try.ntmps63
 go_wp2_with (first|((with_reducible refine QW (N:=1) rfl ?_);refine Kd.R_lit (Kd.int .i64) _ 3 ?hg (N:=1) ?hd (xs:=([0,1]:List Int)) (inner:=[.int .i64 0,.int .i64 1]) (ok:=fun _=>True) (okp:=fun _=>True) ?hr ?hp (fun _ hk=>hk) trivial (Below.refl _ _) (Nat.le_refl _) (by simp) ?_;(case hd=>rfl);(case hg=>rfl);(case hr=>first|(go_simp;done)|(go_simp;rfl));(case hp=>exact (Reps.one (show Kd.M (Kd.int .i64) _ _ _ 0 [.int .i64 0] from rfl) (Reps.one (show Kd.M (Kd.int .i64) _ _ _ 1 [.int .i64 1] from rfl) (Reps.none _ _))));intro qFr w1 ho2 hb hg_ hnew_;clear hg_ hnew_;(first|rw [← qoV.out] at ho2|(simp only [Int.reduceToNat] at ho2;rw [← qoV.out] at ho2));have n0_:=Q0.mk (Kd.R_lower (Kd.R_newM (M:=fun k_=>(w.heap.size≤k_)) ho2 (Qe (by repeat (first|(with_reducible first|exact HB.out|apply Q2|apply Q1|apply Q4)|exact HB.out))) (fun k_ h_=>h_)) (Qe (by repeat (first|(with_reducible first|exact HB.out|apply Q2|apply Q1|apply Q4)|exact HB.out))));have n1_:=Q0.mk (Qi (by repeat (first|(with_reducible first|exact HB.out|apply Q2|apply Q1|apply Q4)|exact HB.out)) hb);clear HB;have Wa:=n0_;have HB:=n1_;clear n0_ n1_ hb ho2)|((with_reducible refine QW (N:=2) rfl ?_);refine Kd.R_lit (Kd.int .i64) _ 3 ?hg (N:=2) ?hd (xs:=([1,2]:List Int)) (inner:=[.int .i64 1,.int .i64 2]) (ok:=fun _=>True) (okp:=fun _=>True) ?hr ?hp (fun _ hk=>hk) trivial (Below.refl _ _) (Nat.le_refl _) (by simp) ?_;(case hd=>rfl);(case hg=>rfl);(case hr=>first|(go_simp;done)|(go_simp;rfl));(case hp=>exact (Reps.one (show Kd.M (Kd.int .i64) _ _ _ 1 [.int .i64 1] from rfl) (Reps.one (show Kd.M (Kd.int .i64) _ _ _ 2 [.int .i64 2] from rfl) (Reps.none _ _))));intro qFs w3 ho4 hb hg_ hnew_;clear hg_ hnew_;(first|rw [← qoW.out] at ho4|(simp only [Int.reduceToNat] at ho4;rw [← qoW.out] at ho4));have n0_:=Q0.mk (Kd.R_elder' (by (with_reducible repeat (first|apply Kd.R_alloc|apply Kd.R_drewN|apply Kd.R_drew));exact Wa.out) (Kd.R_base ho4) hb);have n1_:=Q0.mk (Kd.R_lower (Kd.R_new' (Kd.R_newM (M:=fun k_=>(w.heap.size≤k_)) ho4 (Qe (by repeat (first|(with_reducible first|exact HB.out|apply Q2|apply Q1|apply Q4)|exact HB.out))) (fun k_ h_=>h_)) (Kd.R_lt (by (with_reducible repeat (first|apply Kd.R_alloc|apply Kd.R_drewN|apply Kd.R_drew));exact Wa.out))) (Qe (by repeat (first|(with_reducible first|exact HB.out|apply Q2|apply Q1|apply Q4)|exact HB.out))));have n2_:=Q0.mk (Qi (by repeat (first|(with_reducible first|exact HB.out|apply Q2|apply Q1|apply Q4)|exact HB.out)) hb);clear Wa HB;have Wa:=n0_;have qa4:=n1_;have HB:=n2_;clear n0_ n1_ n2_ hb ho4)|((with_reducible refine QW (N:=3) rfl ?_);refine Kd.R_lit (Kd.int .i64) _ 3 ?hg (N:=3) ?hd (xs:=([2,3]:List Int)) (inner:=[.int .i64 2,.int .i64 3]) (ok:=fun _=>True) (okp:=fun _=>True) ?hr ?hp (fun _ hk=>hk) trivial (Below.refl _ _) (Nat.le_refl _) (by simp) ?_;(case hd=>rfl);(case hg=>rfl);(case hr=>first|(go_simp;done)|(go_simp;rfl));(case hp=>exact (Reps.one (show Kd.M (Kd.int .i64) _ _ _ 2 [.int .i64 2] from rfl) (Reps.one (show Kd.M (Kd.int .i64) _ _ _ 3 [.int .i64 3] from rfl) (Reps.none _ _))));intro qFt w5 ho6 hb hg_ hnew_;clear hg_ hnew_;(first|rw [← qoX.out] at ho6|(simp only [Int.reduceToNat] at ho6;rw [← qoX.out] at ho6));have n0_:=Q0.mk (Kd.R_elder' (by (with_reducible repeat (first|apply Kd.R_alloc|apply Kd.R_drewN|apply Kd.R_drew));exact Wa.out) (Kd.R_base ho6) hb);have n1_:=Q0.mk (Kd.R_elder' (by (with_reducible repeat (first|apply Kd.R_alloc|apply Kd.R_drewN|apply Kd.R_drew));exact qa4.out) (Kd.R_base ho6) hb);have n2_:=Q0.mk (Kd.R_lower (Kd.R_new' (Kd.R_new' (Kd.R_newM (M:=fun k_=>(w.heap.size≤k_)) ho6 (Qe (by repeat (first|(with_reducible first|exact HB.out|apply Q2|apply Q1|apply Q4)|exact HB.out))) (fun k_ h_=>h_)) (Kd.R_lt (by (with_reducible repeat (first|apply Kd.R_alloc|apply Kd.R_drewN|apply Kd.R_drew));exact Wa.out))) (Kd.R_lt (by (with_reducible repeat (first|apply Kd.R_alloc|apply Kd.R_drewN|apply Kd.R_drew));exact qa4.out))) (Qe (by repeat (first|(with_reducible first|exact HB.out|apply Q2|apply Q1|apply Q4)|exact HB.out))));have n3_:=Q0.mk (Qi (by repeat (first|(with_reducible first|exact HB.out|apply Q2|apply Q1|apply Q4)|exact HB.out)) hb);clear Wa qa4 HB;have Wa:=n0_;have qa4:=n1_;have qhW:=n2_;have HB:=n3_;clear n0_ n1_ n2_ n3_ hb ho6;obtain ⟨Ao7,co7,eo7⟩:=Kd.R_slice Wa.out;subst eo7;obtain ⟨Ao8,co8,eo8⟩:=Kd.R_slice qa4.out;subst eo8;obtain ⟨Ao9,co9,eo9⟩:=Kd.R_slice qhW.out;subst eo9)|((with_reducible refine QW (N:=4) rfl ?_);refine Kd.N_lit (Kd.slice 3 (Kd.int .i64)) _ 37 ?hg (N':=4) ?hd (xs:=([qgo,qhJ,qkc]:List (List Int))) (inner:=[.slice Ao7 qgo.length co7,.slice Ao8 qhJ.length co8,.slice Ao9 qkc.length co9]) (ok:=(fun k_=>(w.heap.size≤k_))) (okp:=(fun k_=>(w.heap.size≤k_))) ?hr ?hp (fun _ hk=>hk) ((show ∀ k_,w5.heap.size≤k_→(fun k_=>(w.heap.size≤k_)) k_ from fun k_ hk=>(Nat.le_trans (Qe (by repeat (first|(with_reducible first|exact HB.out|apply Q2|apply Q1|apply Q4)|exact HB.out))) hk)) _ (Nat.le_refl _)) (Below.refl _ _) (Nat.le_refl _) (by simp) ?_;(case hd=>rfl);(case hg=>rfl);(case hr=>first|(go_simp;done)|(go_simp;rfl));(case hp=>exact (Reps.one (show Kd.FK (Kd.slice 3 (Kd.int .i64)) _ _ qgo [.slice Ao7 qgo.length co7] from (Kd.FK_slice_mk (Kd.R_reads' (Kd.R_mono (ok':=(fun k_=>(w.heap.size≤k_))) (Wa.out) (fun k_ hk=>hk.1.1.1))).2.1 (Kd.R_F (Kd.R_mono (ok':=(fun k_=>(w.heap.size≤k_))) (Wa.out) (fun k_ hk=>hk.1.1.1))))) (Reps.one (show Kd.FK (Kd.slice 3 (Kd.int .i64)) _ _ qhJ [.slice Ao8 qhJ.length co8] from (Kd.FK_slice_mk (Kd.R_reads' (Kd.R_mono (ok':=(fun k_=>(w.heap.size≤k_))) (qa4.out) (fun k_ hk=>hk.1.1.1))).2.1 (Kd.R_F (Kd.R_mono (ok':=(fun k_=>(w.heap.size≤k_))) (qa4.out) (fun k_ hk=>hk.1.1.1))))) (Reps.one (show Kd.FK (Kd.slice 3 (Kd.int .i64)) _ _ qkc [.slice Ao9 qkc.length co9] from (Kd.FK_slice_mk (Kd.R_reads' (Kd.R_mono (ok':=(fun k_=>(w.heap.size≤k_))) (qhW.out) (fun k_ hk=>hk.1.1.1))).2.1 (Kd.R_F (Kd.R_mono (ok':=(fun k_=>(w.heap.size≤k_))) (qhW.out) (fun k_ hk=>hk.1.1.1))))) (Reps.none _ _)))));intro qFu w10 qlf hb hg_ hnew_;clear hg_ hnew_;(first|rw [← qoY.out] at qlf|(simp only [Int.reduceToNat] at qlf;rw [← qoY.out] at qlf));have n0_:=Q0.mk (Kd.N_lower qlf (Qe (by repeat (first|(with_reducible first|exact HB.out|apply Q2|apply Q1|apply Q4)|exact HB.out))));have n1_:=Q0.mk (Qi (by repeat (first|(with_reducible first|exact HB.out|apply Q2|apply Q1|apply Q4)|exact HB.out)) hb);clear HB Wa qa4 qhW;have qq8:=n0_;have HB:=n1_;clear n0_ n1_ hb qlf))
 go_ret
 exact ⟨_,by first|rfl|(simp [Qv,Qw]<;>rfl)|(simp [*,Qv,Qw]<;>rfl),by (with_reducible repeat (first|apply Kd.N_alloc|apply Kd.N_drewN|apply Kd.N_drew));exact qq8.out,by repeat (first|(with_reducible first|exact HB.out|apply Q2|apply Q1|apply Q4)|exact HB.out)⟩
end
section
set_option maxRecDepth 100000
def qcv:List S68:=[⟨30,⟨2,2⟩⟩,⟨20,⟨3,4⟩⟩,⟨10,⟨4,6⟩⟩]
def qdw:List (List S25):=[[⟨60,70⟩,⟨30,40⟩],[⟨20,30⟩,⟨70,80⟩]]
def qgI:List S25:=[⟨45,50⟩,⟨50,55⟩]
def qct:S39:=⟨[100,50,20],[800,700,500],[0,1,2],60,1⟩
def qcu:S39:=⟨[60,60],[500,500],[1,1],50,0⟩
def qkZ:List ZV:=[⟨50,8⟩,⟨30,5⟩,⟨20,1⟩,⟨10,4⟩]
def qdv:List (List Int):=[[0,1],[1,2],[2,3]]
def UL:List (List (List Int)):=[[[90,80],[10,10]],[[0,0],[0,0]]]
theorem qje:JY.f=some qcv:=by kernel_rfl
theorem qk6:G9.f=some qdw:=by kernel_rfl
theorem qmk:Gj.f=some qgI:=by kernel_rfl
theorem qjd:ZR.f=some ([100,50,20],[800,700,500],[0,1,2],60,1):=by kernel_rfl
theorem qcw:Jp.f=some ([qct,qcu],[40,80],UL):=by kernel_rfl
theorem qpR:GH.f=some qkZ:=by kernel_rfl
theorem qk5:G8.f=some qdv:=by kernel_rfl
theorem qmi:QT.f 40 qcv 4 6=some (10,30,0):=by kernel_rfl
theorem qmj:QH.f 20 [100,50,20] [800,700,500] [0,1,2] 60 1 [30,30] [90,80]=some ([40,78],0):=by kernel_rfl
theorem qk2:Zj.f 40 [qct,qcu] [40,80] UL=some (7,0):=by kernel_rfl
theorem qk1:YJ.f 40 [qct,qcu] [40,80] UL 8=some (1,1,1,0):=by kernel_rfl
theorem qk3:YX.f 10 [40,78] [40,78]=some true:=by kernel_rfl
theorem qk4:YX.f 10 [0,2] [0,2]=some true:=by kernel_rfl
theorem qdx:YN.f 10 [⟨38,75⟩,⟨25,62⟩] [⟨38,75⟩,⟨25,62⟩]=some true:=by kernel_rfl
theorem qk0:QA.f qkZ qdv 2=some ([0,2],110,18,0):=by kernel_rfl
theorem qjc:Qo.f 20 qdw qgI=some ([⟨38,75⟩,⟨25,62⟩],0):=by kernel_rfl
end
section
attribute [local go_sem high] qh9
def Zt.f:Option Bool:=some true
structure qkB (p:Prop):Prop where
 out:p
theorem V_C {α:Type} {d:Kd α} {e:Nat} {w:World} {b:Nat} {ok:Nat→Prop} {v:Value} {xs:List α} (h:Kd.V d e w b ok v xs):∃ A c,v = .slice A xs.length c∧xs.length≤c∧Kd.C d w A xs.length xs:=by
 obtain ⟨A,c,hv,hl,hf⟩:=h
 exact ⟨A,c,hv,hl,Kd.F_now hf⟩
theorem qeY {W:World} {o:Obj} {k:Nat} (h:W.heap.size=k):(W.alloc o).heap[k]? = some o:=by subst h;exact World.alloc_heap_new W o
theorem qhL {W:World} {g:Nat} {a b:Int} (h:W.heap[g]? = some (.cells #[.int .i64 a,.int .i64 b] 3 (0,0))):Kd.C (Kd.int .i64) W (some ⟨g,0,none⟩) 2 [a,b]:=by
 refine ⟨rfl,by decide,fun _=>⟨_,rfl,fun j p hj=>⟨[.int .i64 p],rfl,rfl,fun i u hu => ?_⟩⟩⟩
 have hj2:j<2:=(List.getElem?_eq_some_iff.1 hj).1
 have hi:i=0:=by have:=(List.getElem?_eq_some_iff.1 hu).1;simpa using this
 subst hi
 have hu2:Value.int .i64 p=u:=by simpa using hu
 rw [UH,Q8 h]
 subst hu2
 match j,hj2,hj with
 | 0,_,hj=>cases hj;rfl
 | 1,_,hj=>cases hj;rfl
theorem qlZ {W:World} {g:Nat} {a b a' b':Int} (h:W.heap[g]? = some (.cells #[.int .i64 a,.int .i64 b,.int .i64 a',.int .i64 b'] 25 (0,0))):Kd.C k25 W (some ⟨g,0,none⟩) 2 [⟨a,b⟩,⟨a',b'⟩]:=by
 refine ⟨rfl,by decide,fun _=>⟨_,rfl,fun j p hj=>⟨[.int .i64 p.f0,.int .i64 p.f1],rfl,qlo _ _,fun i u hu => ?_⟩⟩⟩
 have hj2:j<2:=(List.getElem?_eq_some_iff.1 hj).1
 have hi:i<2:=(List.getElem?_eq_some_iff.1 hu).1
 rw [UH,Q8 h]
 match j,hj2,hj,i,hi,hu with
 | 0,_,hj,0,_,hu=>cases hj;cases hu;rfl
 | 0,_,hj,1,_,hu=>cases hj;cases hu;rfl
 | 1,_,hj,0,_,hu=>cases hj;cases hu;rfl
 | 1,_,hj,1,_,hu=>cases hj;cases hu;rfl
set_option maxHeartbeats 8000000 in
set_option maxRecDepth 100000 in
theorem Zt.calls (r:Bool) (w:World) (h:Zt.f=some r) :
  Calls Try.prog 21 #[] w fun e w'=>e = .returned (.bool r)∧Below w.heap.size w w':=by
 obtain rfl:true=r:=Option.some.inj h
 clear h
 have X1:=Try.underlying25
 go_enter Try.func21,Try.ntmps21
 have B0:=Below.refl w.heap.size w
 go_wp2_with (first
  | (go_at_call 59;refine (JY.calls _ _ qje).mono ?_;rintro e w1 ⟨v,rfl,hv,hb1⟩;obtain ⟨A1,c1,rfl,hc1,hC1⟩:=Kd.R_reads hv;have B1:=B0.trans (hb1.mono B0.size);clear hv hb1)
  | (go_at_call 19;refine (QT.calls 40 A1 c1 qcv 4 6 10 30 0 _ hC1 hc1 qmi).mono ?_;rintro e w2 ⟨rfl,hb2⟩;have B2:=B1.trans (hb2.mono B1.size);clear hC1 hc1 hb2)
  | (go_at_call 61;refine (G9.calls _ _ qk6).mono ?_;rintro e w3 ⟨v,rfl,hv,hb3⟩;obtain ⟨A3,c3,rfl,hc3,hC3⟩:=Kd.N_reads hv;have B3:=(Q2 B2 _).trans (hb3.mono (Q2 B2 _).size);have K3:=Qf (World.alloc_heap_new w2 _) hb3;clear hv)
  | (go_at_call 60;refine (Gj.calls _ _ qmk).mono ?_;rintro e w4 ⟨v,rfl,hv,hb4⟩;obtain ⟨A4,c4,rfl,hc4,hC4⟩:=Kd.R_reads hv;have B4:=B3.trans (hb4.mono B3.size);have qr2:=Kd.C_below hC3 hb4;have K4:=Qf K3 hb4;clear hv)
  | (go_at_call 22;refine (Qo.calls 20 A3 c3 qdw A4 c4 qgI [⟨38,75⟩,⟨25,62⟩] 0 _ qr2 hc3 hC4 hc4 qjc).mono ?_;rintro e w5 ⟨v,rfl,hv,hb5⟩;obtain ⟨A5,c5,rfl,hc5,hC5⟩:=V_C hv;have B5:=B4.trans (hb5.mono B4.size);have K5:=Qf K4 hb5;clear K3 K4 hC3 qr2 hC4 hc3 hc4 hv hb3 hb4 hb5)
  | (go_at_call 57;refine (ZR.calls _ _ _ _ _ _ qjd).mono ?_;rintro e w6 ⟨u0,u1,u2,rfl,h0,h1,h2,hb6⟩;obtain ⟨A60,c60,rfl,qse,qr7⟩:=Kd.R_reads h0;obtain ⟨A61,c61,rfl,qsf,qr8⟩:=Kd.R_reads h1;obtain ⟨A62,c62,rfl,qsg,qr9⟩:=Kd.R_reads h2;have B6:=B5.trans (hb6.mono B5.size);have K6:=Qf K5 hb6;have qr3:=Kd.C_below hC5 hb6;clear K5 h0 h1 h2 hC5 hb6)
  | (go_at_call 25;refine (QH.calls 20 A60 c60 [100,50,20] A61 c61 [800,700,500] A62 c62 [0,1,2] 60 1 _ 2 [30,30] _ 2 [90,80] [40,78] 0 _ ?q1 qse ?q2 qsf ?q3 qsg ?q4 (Nat.le_refl 2) ?q5 (Nat.le_refl 2) qmj).mono ?_;(case q1=>exact Kd.C_alloc (Kd.C_alloc qr7 _) _);(case q2=>exact Kd.C_alloc (Kd.C_alloc qr8 _) _);(case q3=>exact Kd.C_alloc (Kd.C_alloc qr9 _) _);(case q4=>exact qhL (Q3 (World.alloc_heap_new w6 _) _));(case q5=>refine qhL ?_;(have:=World.alloc_heap_new (w6.alloc (.cells #[.int .i64 30,.int .i64 30] 3)) (.cells #[.int .i64 90,.int .i64 80] 3));rwa [World.size_alloc] at this);rintro e w7 ⟨v,rfl,hv,hb7⟩;obtain ⟨A7,c7,rfl,hc7,hC7⟩:=V_C hv;have B7:=(Q2 (Q2 B6 _) _).trans (hb7.mono (Q2 (Q2 B6 _) _).size);have K7:=Qf (Q3 (Q3 K6 _) _) hb7;have qr4:=Kd.C_below (Kd.C_alloc (Kd.C_alloc qr3 _) _) hb7;clear qr7 qr8 qr9 qse qsf qsg qr3 K6 hv hb7)
  | (go_at_call 58;refine (Jp.calls _ _ _ _ qcw).mono ?_;rintro e w8 ⟨u0,u1,u2,rfl,h0,h1,h2,hb8⟩;obtain ⟨A80,c80,rfl,qla,qk7⟩:=Kd.N_reads h0;obtain ⟨A81,c81,rfl,qlb,qk8⟩:=Kd.R_reads h1;obtain ⟨A82,c82,rfl,qlc,qk9⟩:=Kd.N_reads h2;have B8:=B7.trans (hb8.mono B7.size);have K8:=Qf K7 hb8;have qr5:=Kd.C_below qr4 hb8;have qsb:=Kd.C_below hC7 hb8;clear h0 h1 h2 qr4 hC7 K7 hb8)
  | (go_at_call 28;refine (Zj.calls 40 A80 c80 [qct,qcu] A81 c81 [40,80] A82 c82 UL 7 0 _ qk7 qla qk8 qlb qk9 qlc qk2).mono ?_;rintro e w9 ⟨rfl,hb9⟩;have B9:=B8.trans (hb9.mono B8.size);have K9:=Qf K8 hb9;have qr6:=Kd.C_below qr5 hb9;have qsc:=Kd.C_below qsb hb9;clear qk7 qk8 qk9 qla qlb qlc qr5 qsb K8 hb9))
 have hSb:∀ z:World,Below w9.heap.size w9 z→z.cell? ⟨w2.heap.size,0,none⟩=some (.int .i64 10)∧z.cell? ⟨w2.heap.size,1,none⟩=some (.int .i64 30)∧Below w9.heap.size w9 z:=fun z hz =>
  ⟨(Q8 (Qf K9 hz) 0).trans rfl,(Q8 (Qf K9 hz) 1).trans rfl,hz⟩
 have HSb:=Q0.mk hSb
 have H59:=Q0.mk qr6
 have H79:=Q0.mk qsc
 have HB9:=Q0.mk B9
 clear hSb qr6 qsc B0 B1 B2 B3 B4 B5 B6 B7 B8 B9 K9
 go_region_held3 (fun z=>z.cell? ⟨w2.heap.size,0,none⟩=some (.int .i64 10)∧z.cell? ⟨w2.heap.size,1,none⟩=some (.int .i64 30)∧Below w9.heap.size w9 z)
  (first|exact HSb.out _ (Yl (Below.refl _ _))|(refine HSb.out _ (Q2 ?hk _);(case hk=>exact (And.right (And.right ‹_∧_∧Below w9.heap.size w9 _›))))|(refine HSb.out _ (Q1 ?hk _);(case hk=>exact (And.right (And.right ‹_∧_∧Below w9.heap.size w9 _›))))|(refine HSb.out _ (Below.trans ?hk1 (hbz.mono ?hk2));(case hk1=>exact (And.right (And.right ‹_∧_∧Below w9.heap.size w9 _›)));(case hk2=>exact (And.right (And.right ‹_∧_∧Below w9.heap.size w9 _›)).size)))
  (first
   | (go_at_call 43;refine (Qt.calls _ _ _ _ _ rfl).mono ?_;rintro e wz ⟨rfl,hbz⟩)
   | (go_at_call 24;refine (YN.calls 10 A5 c5 [⟨38,75⟩,⟨25,62⟩] _ 2 [⟨38,75⟩,⟨25,62⟩] true _ ?q1 hc5 ?q2 (Nat.le_refl 2) qdx).mono ?_;(case q1=>refine Kd.C_below H59.out ?hk;(case hk=>exact (And.right (And.right ‹_∧_∧Below w9.heap.size w9 _›))));(case q2=>refine qlZ ?_;exact World.alloc_heap_new _ _);rintro e wz ⟨rfl,⟨nd,rfl⟩⟩)
   | (go_at_call 27;refine (YX.calls 10 A7 c7 [40,78] _ 2 [40,78] true _ ?q1 hc7 ?q2 (Nat.le_refl 2) qk3).mono ?_;(case q1=>refine Kd.C_below H79.out ?hk;(case hk=>exact (And.right (And.right ‹_∧_∧Below w9.heap.size w9 _›))));(case q2=>refine qhL (qeY ?hs);(case hs=>first|rfl|exact World.size_alloc _ _));rintro e wz ⟨rfl,⟨nd,rfl⟩⟩))
 go_wp2_with (go_at_call 58;refine qkB.out ?_)
 refine qkB.mk ?_
 refine (Jp.calls _ _ _ _ qcw).mono ?_
 rintro e wa ⟨u0,u1,u2,rfl,h0,h1,h2,hba⟩
 have Ba:Below w.heap.size w wa:=by
  refine Below.trans ?_ (hba.mono ?_)
  ·
   exact HB9.out.trans ((And.right (And.right ‹_∧_∧Below w9.heap.size w9 _›)).mono HB9.out.size)
  ·
   exact (HB9.out.trans ((And.right (And.right ‹_∧_∧Below w9.heap.size w9 _›)).mono HB9.out.size)).size
 obtain ⟨A80,c80,rfl,qla,qk7⟩:=Kd.N_reads h0
 obtain ⟨A81,c81,rfl,qlb,qk8⟩:=Kd.R_reads h1
 obtain ⟨A82,c82,rfl,qlc,qk9⟩:=Kd.N_reads h2
 clear h0 h1 h2 hba
 go_wp2_with (first
  | (go_at_call 32;refine (YJ.calls 40 A80 c80 [qct,qcu] A81 c81 [40,80] A82 c82 UL 8 1 1 1 0 _ qk7 qla qk8 qlb qk9 qlc qk1).mono ?_;rintro e wb ⟨rfl,hbb⟩;have Bb:=Ba.trans (hbb.mono Ba.size);clear qk7 qk8 qk9 qla qlb qlc hbb)
  | (go_at_call 62;refine (GH.calls _ _ qpR).mono ?_;rintro e wc ⟨v,rfl,hv,hbc⟩;obtain ⟨Ac,cc,rfl,hcc,hCc⟩:=Kd.R_reads hv;have Bc:=Bb.trans (hbc.mono Bb.size);clear hv hbc)
  | (go_at_call 63;refine (G8.calls _ _ qk5).mono ?_;rintro e wd ⟨v,rfl,hv,hbd⟩;obtain ⟨Ad,cd,rfl,hcd,hCd⟩:=Kd.N_reads hv;have Bd:=Bc.trans (hbd.mono Bc.size);have hCc':=Kd.C_below hCc hbd;clear hv hbd hCc)
  | (go_at_call 40;refine (QA.calls Ac cc qkZ Ad cd qdv 2 [0,2] 110 18 0 _ hCc' hcc hCd hcd qk0).mono ?_;rintro e we ⟨v,rfl,hv,hbe⟩;obtain ⟨Ae,ce,rfl,hce,hCe⟩:=V_C hv;have Be:=Bd.trans (hbe.mono Bd.size);clear hv hbe hCc' hCd hcc hcd)
  | (go_at_call 27;refine (YX.calls 10 Ae ce [0,2] _ 2 [0,2] true _ ?q1 hce ?q2 (Nat.le_refl 2) qk4).mono ?_;(case q1=>exact Kd.C_alloc hCe _);(case q2=>refine qhL (qeY ?hs);(case hs=>rfl));rintro e wf ⟨rfl,⟨ndf,rfl⟩⟩))
 go_ret
 exact ⟨rfl,Q1 (Q2 Be _) _⟩
end
section
attribute [local go_sem] YF YH YY YZ Yq Yr YG YI
attribute [local go_sem high] qh9
mutual
def Q9.j1:Nat→List (List (S25))→List Int→List (S25)→Option (Bool)
 | 0,_,_,_=>none
 | k+1,x0,x1,x5=>(Qo.f k x0 x5).bind fun Wm=>(if Wm.2=0 then ((Qg.f k x0 x5).bind fun qlO=>(Q9.j2 k x0 x1 x5 Wm.1 Wm.2 (!qlO))) else (Q9.j2 k x0 x1 x5 Wm.1 Wm.2 true))
def Q9.j2:Nat→List (List (S25))→List Int→List (S25)→List (S25)→Int→Bool→Option (Bool)
 | 0,_,_,_,_,_,_=>none
 | k+1,x0,x1,x5,x7,x8,x47=>if x47=true then (if x8=91 then (if (x7.length:Int)=0 then ((Zt.f).bind fun qjY=>(some qjY)) else (some false)) else (some false)) else ((Yj.f k (x0.length:Int) x1).bind fun J8=>(Q9.l1 k x0 x1 x5 x7 J8 ([]:List (S25)) 0))
def Q9.l1:Nat→List (List (S25))→List Int→List (S25)→List (S25)→List Int→List (S25)→Int→Option (Bool)
 | 0,_,_,_,_,_,_,_=>none
 | k+1,x0,x1,x5,x7,x9,x10,x11=>if x11<(x5.length:Int) then (Q9.l2 k x0 x1 x5 x7 x9 x10 x11 0 0) else ((Qo.f k x0 x10).bind fun Wn=>(if Wn.2=0 then (if (Wn.1.length:Int)=(x0.length:Int) then (Q9.j5 k x0 x7 x9 Wn.1 ((x7.length:Int) != (x0.length:Int))) else (Q9.j5 k x0 x7 x9 Wn.1 true)) else (Q9.j5 k x0 x7 x9 Wn.1 true)))
def Q9.l2:Nat→List (List (S25))→List Int→List (S25)→List (S25)→List Int→List (S25)→Int→Int→Int→Option (Bool)
 | 0,_,_,_,_,_,_,_,_,_=>none
 | k+1,x0,x1,x5,x7,x9,x10,x11,x12,x13=>if x13<(x0.length:Int) then (if 0≤x13 then (if x13<(x9.length:Int) then (if 0≤x11 then (if x11<((Yh x0 x13).length:Int) then ((ZT.f x1 (wrap64 ((wrap64 ((wrap64 (3*x11))+x13))+2))).bind fun qjZ=>((ZS.f ((Qs (Yh x0 x13) x11).f0) ((Qs (Yh x0 x13) x11).f1) qjZ).bind fun qhv=>(Q9.l2 k x0 x1 x5 x7 x9 x10 x11 (wrap64 (x12+(wrap64 ((rd x9 x13)*qhv)))) (wrap64 (x13+1))))) else (none)) else (none)) else (none)) else (none)) else ((ZA.f x12 100).bind fun qhw=>((JD.f x12 100).bind fun qgj=>((Qt.f qhw qgj).bind fun qbb=>(if x10.length<8796093022208 then (Q9.l1 k x0 x1 x5 x7 x9 (x10++[(⟨qbb.1,qbb.2⟩:S25)]) (wrap64 (x11+1))) else (none)))))
def Q9.j5:Nat→List (List (S25))→List (S25)→List Int→List (S25)→Bool→Option (Bool)
 | 0,_,_,_,_,_=>none
 | k+1,x0,x7,x9,x14,qBs=>if qBs=true then (some false) else (Q9.l3 k x0 x7 x9 x14 0)
def Q9.l3:Nat→List (List (S25))→List (S25)→List Int→List (S25)→Int→Option (Bool)
 | 0,_,_,_,_,_=>none
 | k+1,x0,x7,x9,x14,x15=>if x15<(x14.length:Int) then (if 0≤x15 then (if x15<(x9.length:Int) then ((Jg.f ((Qs x14 x15).f0) ((Qs x14 x15).f1) (rd x9 x15)).bind fun qod=>(if qod=true then ((YV.f ((Qs x14 x15).f0) ((Qs x14 x15).f1) 0 100).bind fun qoe=>(Q9.j7 k x0 x7 x9 x14 x15 (!qoe))) else (Q9.j7 k x0 x7 x9 x14 x15 true))) else (none)) else (none)) else ((Zt.f).bind fun qoc=>(some qoc))
def Q9.j7:Nat→List (List (S25))→List (S25)→List Int→List (S25)→Int→Bool→Option (Bool)
 | 0,_,_,_,_,_,_=>none
 | k+1,x0,x7,x9,x14,x15,x158=>if x158=true then (some false) else (if (x0.length:Int)>1 then (if 0≤x15 then (if x15<(x7.length:Int) then ((Qt.f 0 100).bind fun qe3=>(if (!(((Qs x7 x15).f0)==qe3.1)||(!(((Qs x7 x15).f1)==qe3.2)))=true then (some false) else (if (x0.length:Int)=1 then ((Qt.f 100 100).bind fun qbc=>(if (!(((Qs x7 x15).f0)==qbc.1)||(!(((Qs x7 x15).f1)==qbc.2)))=true then (some false) else (Q9.l3 k x0 x7 x9 x14 (wrap64 (x15+1))))) else (Q9.l3 k x0 x7 x9 x14 (wrap64 (x15+1)))))) else (none)) else (none)) else (if (x0.length:Int)=1 then (if 0≤x15 then (if x15<(x7.length:Int) then ((Qt.f 100 100).bind fun qe4=>(if (!(((Qs x7 x15).f0)==qe4.1)||(!(((Qs x7 x15).f1)==qe4.2)))=true then (some false) else (Q9.l3 k x0 x7 x9 x14 (wrap64 (x15+1))))) else (none)) else (none)) else (Q9.l3 k x0 x7 x9 x14 (wrap64 (x15+1)))))
def Q9.l0:Nat→List (List (S25))→List Int→List (S25)→Int→Option (Bool)
 | 0,_,_,_,_=>none
 | k+1,x0,x1,x5,x6=>if (x0.length:Int)>0 then (if 0<(x0.length:Int) then (if x6<((Yh x0 0).length:Int) then ((Qt.f 0 100).bind fun qo1=>(if x5.length<8796093022208 then (Q9.l0 k x0 x1 (x5++[(⟨qo1.1,qo1.2⟩:S25)]) (wrap64 (x6+1))) else (none))) else (Q9.j1 k x0 x1 x5)) else (none)) else (Q9.j1 k x0 x1 x5)
end
def Q9.f (k:Nat) (l0:List (List (S25))) (l1:List Int):Option (Bool):=Q9.l0 k l0 l1 ([]:List (S25)) 0
def Q9.T18:Bool × List (List Nat × List Nat):=(true,[([],[]),([],[]),([],[]),([1,2],[1,2]),([3],[3]),([],[]),([],[]),([5,6],[5,6]),([7],[7]),([],[]),([8,9],[8,9]),([10],[10]),([11],[11]),([],[]),([],[]),([13,14],[13,14]),([15],[15]),([],[]),([16,17],[16,17]),([18],[18]),([19],[19]),([],[]),([],[]),([22],[22]),([],[]),([23,24],[23,24]),([25],[25]),([21,26],[21,26]),([12,20,27,27],[12,20,27]),([4,28],[4,28]),([0,29],[0,29]),([30,28,0,1,2,3,4,5,6,7,8,9,10,11,12,13,14,15,16,17,18,19,20,21,22,23,24,25,26,27,28,29,30],[0,30])])
def Q9.B18:List Nat:=[0,0,0,6,14,0,0,96,224,0,992,2016,4064,0,0,24576,57344,0,253952,516096,1040384,0,0,4194304,0,29360128,62914560,132120576,268435424,536870910,1073741823,2147483647]
theorem Q9.tab18:rtab .any (qcy Try.f10 18)=Q9.T18:=by kernel_rfl
theorem Q9.bits18:KL Q9.T18.2 Q9.B18=true:=by kernel_rfl
def Q9.T26:Bool × List (List Nat × List Nat):=(true,[([],[]),([],[]),([0,1],[0,1]),([2],[2]),([],[]),([],[]),([4,5],[4,5]),([6],[6]),([3,7],[3,7]),([8],[8]),([9,8],[9]),([10],[10]),([10],[10]),([11,12,10],[10,11,12]),([13,10],[10,13]),([14,10,10],[10,14]),([15,10],[10,15]),([10,16],[10,16])])
def Q9.B26:List Nat:=[0,0,3,7,0,0,48,112,255,511,1023,2047,2047,8191,16383,32767,65535,131071]
theorem Q9.tab26:rtab .any (qcy Try.f10 26)=Q9.T26:=by kernel_rfl
theorem Q9.bits26:KL Q9.T26.2 Q9.B26=true:=by kernel_rfl
def Q9.T29:Bool × List (List Nat × List Nat):=(true,[([],[]),([0],[0]),([1],[1]),([2],[2]),([2],[2]),([3,4,2],[2,3,4]),([5,2],[2,5]),([2,2],[2]),([6,7,2],[2,6,7]),([2,8],[2,8]),([9,7],[9]),([10],[10]),([11,10],[10,11]),([12,10,10],[10,12]),([13],[13]),([13],[13]),([14,15,13],[13,14,15]),([16,13],[13,16]),([13,13],[13]),([17,18,13],[13,17,18]),([13,19,10],[10,13,19]),([10,20],[10,20])])
def Q9.B29:List Nat:=[0,1,3,7,7,31,63,7,255,511,1023,2047,4095,8191,16383,16383,65535,131071,16383,524287,1048575,2097151]
theorem Q9.tab29:rtab .any (qcy Try.f10 29)=Q9.T29:=by kernel_rfl
theorem Q9.bits29:KL Q9.T29.2 Q9.B29=true:=by kernel_rfl
set_option maxHeartbeats 8000000 in
set_option maxRecDepth 100000 in
theorem Q9.calls (k:Nat) (A0:Option Addr) (c0:Nat) (l0:List (List (S25))) (A1:Option Addr) (c1:Nat) (l1:List Int) (r:Bool) (w:World) (hr0:Kd.C (Kd.slice 25 k25) w A0 l0.length l0) (hc0:l0.length≤c0) (hr1:Kd.C (Kd.int .i64) w A1 l1.length l1) (hc1:l1.length≤c1) (h:Q9.f k l0 l1=some r) :
  Calls Try.prog 10 #[.slice A0 l0.length c0,.slice A1 l1.length c1] w fun e w'=>e = .returned (.bool r)∧Below w.heap.size w w':=by
 have X1:=Try.underlying25
 have HR0:=Q0.mk hr0
 have HC0:=Q0.mk hc0
 clear hr0 hc0
 have HR1:=Q0.mk hr1
 have HC1:=Q0.mk hc1
 clear hr1 hc1
 have HB:=Q0.mk (Below.refl w.heap.size w)
 have H:(Q9.l0 k l0 l1 ([]:List (S25)) 0)=some r:=h
 clear h
 have HC3:=Q0.mk H
 clear H
 go_enter Try.func10,Try.ntmps10
 go_upto_block 0 with (fail)
 go_cut [5] (fun v5 wc => ∃ (kq:Nat) (QY:List (S25)),Q0 (Q9.j1 kq l0 l1 QY=some r)∧Q0 (kq≤k)∧Q0 (Kd.R k25 25 wc w.heap.size (fun _=>True) v5 QY)∧Q0 (Below w.heap.size w wc))
 case first =>
  have H:=HC3.out
  clear HC3
  have H':=Q0.mk H
  clear H
  go_wp2
  go_loopg [5,6] k (fun kq v5 v6 w' => ∃ (Z6:List (S25)) (JF:Int),v6 = .int .i64 JF∧Q0 (Q9.l0 kq l0 l1 Z6 JF=some r)∧Q0 (kq≤k)∧Q0 (Kd.R k25 25 w' w.heap.size (fun _=>True) v5 Z6)∧Q0 (Below w.heap.size w w'))
  case atStart=>exact ⟨(([]:List (S25))),(0),(by first|rfl|(simp;done)|(simp [*];done)),H',⟨Nat.le_refl _⟩,⟨by first|exact Kd.R_nil _ _ _ _ _|exact Kd.N_nil _ _ _ _ _|exact Kd.V_nil _ _ _ _ _|exact Kd.Q_nil _ _ _ _ _|exact Kd.S_nil _ _ _ _ _⟩,⟨by repeat (first|(with_reducible first|exact HB.out|apply Q2|apply Q1|apply Q4)|exact HB.out)⟩⟩
  case round =>
   clear H'
   try clear c1
   try clear p2
   obtain ⟨Z6,JF,rfl,HA,HK1,HO_5,HB⟩:=hrel
   cases gk with
   | zero=>exact absurd HA.out (by simp [Q9.l0])
   | succ k1 =>
    have H:=HA.out;clear HA;simp only [Q9.l0] at H
    by_cases c4:(l0.length:Int)>0
    ·
     as_aux_lemma =>
     rw [if_pos c4] at H;have c4b0:decide (0<(l0.length:Int))=true:=decide_eq_true c4;have c4b1:decide (0<l0.length)=true:=decide_eq_true (by omega);clear c4
     (first|rw [c4b0]|(simp only [Qp,Qq];rw [c4b0])|skip)
     by_cases c5:0<(l0.length:Int)
     ·
      as_aux_lemma =>
      rw [if_pos c5] at H;have c5b0:decide (0<(l0.length:Int))=true:=decide_eq_true c5;have c5b1:decide (0<l0.length)=true:=decide_eq_true (by omega);clear c5
      by_cases c6:JF<((Yh l0 0).length:Int)
      ·
       as_aux_lemma =>
       rw [if_pos c6] at H;have c6b0:decide (JF<((Yh l0 0).length:Int))=true:=decide_eq_true c6;clear c6;replace H:=Option.bind_eq_some_iff.mp H;obtain ⟨⟨qjW,qjX⟩,A70,H⟩:=H;replace H:(if Z6.length<8796093022208 then (Q9.l0 k1 l0 l1 (Z6++[(⟨qjW,qjX⟩:S25)]) (wrap64 (JF+1))) else (none))=some r:=H;have A7:=Q0.mk A70;clear A70
       by_cases c8:Z6.length<8796093022208
       ·
        as_aux_lemma =>
        rw [if_pos c8] at H;have qpu:=Q0.mk c8;clear c8;obtain ⟨qtU,qfG⟩:∃ y_:List (S25),y_=(Z6++[(⟨qjW,qjX⟩:S25)]):=⟨_,rfl⟩
        replace H:(Q9.l0 k1 l0 l1 qtU (wrap64 (JF+1)))=some r:=by first|(rw [qfG];with_reducible exact H)|(have H2_:=(Option.bind_some _ _).symm.trans H;rw [qfG];with_reducible exact H2_)|(have H2_:=(Option.bind_some _ _).symm.trans H;with_reducible exact H2_)|with_reducible exact H|(rw [qfG];exact H)|exact H
        have qrk:=Q0.mk qfG;clear qfG;have H':=Q0.mk H;clear H;have qaC:0≤(0:Int):=(by omega);have qaE:0<(l0.length:Int):=of_decide_eq_true (by first|(with_reducible assumption)|assumption);obtain ⟨qrB,qpi,qpy,qpI,JN,qap,qak⟩:=XE HR0.out 0 qaC qaE;cases qpI;have qtQ:(0<l0.length)=True:=eq_true (by omega)
        (try rw [show ((0:Int)).toNat=0 from rfl] at JN)
        (try rw [Addr.add_zero'] at JN)
        replace JN:=(HB.out.cell (World.block_lt_of_cell? w _ JN)).trans JN;have qma:=Q0.mk qak;have ql6:=Q0.mk qap;clear qak qap;replace qaC:=eq_true qaC;replace qaE:=eq_true qaE
        go_wp2_with (first|((with_reducible refine Qz (f:=43) rfl ?_);refine Yo (some 31) rfl rfl Try.func43 (by kernel_rfl) rfl #[.int .i64 0,.int .i64 100] rfl (by (try simp only [List.map_toArray,List.map_cons,List.map_nil]);first|done|rfl|(simp only [List.length_drop,List.length_take];rfl)) ?_;(with_reducible refine (Qt.calls 0 100 qjW qjX _ A7.out).mono ?_);rintro e w9 ⟨rfl,hb⟩;refine ⟨_,rfl,?_⟩;have n0_:=Q0.mk (Kd.R_below (by (with_reducible repeat (first|apply Kd.R_alloc|apply Kd.R_drewN|apply Kd.R_drew));exact HO_5.out) hb);have n1_:=Q0.mk (Qi (by repeat (first|(with_reducible first|exact HB.out|apply Q2|apply Q1|apply Q4)|exact HB.out)) hb);clear HO_5 HB;have HO_5:=n0_;have HB:=n1_;clear n0_ n1_;(try clear hb);(try clear hb2);(try clear hk);(try clear hi))|((with_reducible refine Of (b:=.append) (xs:=#[.tmp 30,.tmp 32]) rfl ?_);(try (refine Ga (by rfl) ?_;dsimp only));at_builtin;refine Kd.R_append k25 (w0:=w) w.heap.size rfl (.tmp 30) (.tmp 32) 32 25 (.agg #[(.int .i64 0),(.int .i64 0)]) 16 rfl Try.underlying32 qd9 rfl (by decide) (by omega) u5 Z6 (⟨qjW,qjX⟩:S25) [.int .i64 qjW,.int .i64 qjX] (fun _=>True) (fun _=>False) rfl rfl ?aP (fun _ hk=>hk.elim) ?aF ?aO ?aB ?aS ?aL ?_;(case aP=>exact KI _ _ _ (⟨qjW,qjX⟩:S25));(case aB=>exact (by repeat (first|(with_reducible first|exact HB.out|apply Q2|apply Q1|apply Q4)|exact HB.out)));(case aF=>exact (fun _ _=>trivial));(case aO=>exact (by (with_reducible repeat (first|apply Kd.R_alloc|apply Kd.R_drewN|apply Kd.R_drew));exact HO_5.out));(case aS=>exact (Qe (by repeat (first|(with_reducible first|exact HB.out|apply Q2|apply Q1|apply Q4)|exact HB.out))));(case aL=>have:=qpu.out;omega);intro qFx w10 ho hb hg hat;rw [← qrk.out] at ho;have n0_:=Q0.mk (hb);have n1_:=Q0.mk (ho);clear HB HO_5;have HB:=n0_;have qrb:=n1_;clear n0_ n1_ ho hb hg hat))
        go_roundg k1
        case measure=>have:=HK1.out;omega
        case rel=>exact ⟨(qtU),(wrap64 (JF+1)),(by first|rfl|(simp;done)|(simp [*];done)),H',⟨by have:=HK1.out;omega⟩,⟨by (with_reducible repeat (first|apply Kd.R_alloc|apply Kd.R_drewN|apply Kd.R_drew));exact qrb.out⟩,⟨by repeat (first|(with_reducible first|exact HB.out|apply Q2|apply Q1|apply Q4)|exact HB.out)⟩⟩
       rw [if_neg c8] at H
       exact absurd H (by simp)
      as_aux_lemma =>
      rw [if_neg c6] at H;have c6b0:decide (JF<((Yh l0 0).length:Int))=false:=decide_eq_false c6;clear c6;have H':=Q0.mk H;clear H;have qaC:0≤(0:Int):=(by omega);have qaE:0<(l0.length:Int):=of_decide_eq_true (by first|(with_reducible assumption)|assumption);obtain ⟨qrB,qpi,qpy,qpI,JN,qap,qak⟩:=XE HR0.out 0 qaC qaE;cases qpI;have qtQ:(0<l0.length)=True:=eq_true (by omega)
      (try rw [show ((0:Int)).toNat=0 from rfl] at JN)
      (try rw [Addr.add_zero'] at JN)
      replace JN:=(HB.out.cell (World.block_lt_of_cell? w _ JN)).trans JN;have qma:=Q0.mk qak;have ql6:=Q0.mk qap;clear qak qap;replace qaC:=eq_true qaC;replace qaE:=eq_true qaE
      go_wp2
      go_meet
      case rel=>exact ⟨_,(Z6),H',⟨by have:=HK1.out;first|omega|exact Nat.le_refl _⟩,⟨by (with_reducible repeat (first|apply Kd.R_alloc|apply Kd.R_drewN|apply Kd.R_drew));exact HO_5.out⟩,⟨by repeat (first|(with_reducible first|exact HB.out|apply Q2|apply Q1|apply Q4)|exact HB.out)⟩⟩
     rw [if_neg c5] at H
     exact absurd H (by simp)
    rw [if_neg c4] at H;have c4b0:decide (0<(l0.length:Int))=false:=decide_eq_false c4;have c4b1:decide (0<l0.length)=false:=decide_eq_false (by omega);clear c4
    (first|rw [c4b0]|(simp only [Qp,Qq];rw [c4b0])|skip)
    have H':=Q0.mk H;clear H
    go_wp2
    go_meet
    case rel=>exact ⟨_,(Z6),H',⟨by have:=HK1.out;first|omega|exact Nat.le_refl _⟩,⟨by (with_reducible repeat (first|apply Kd.R_alloc|apply Kd.R_drewN|apply Kd.R_drew));exact HO_5.out⟩,⟨by repeat (first|(with_reducible first|exact HB.out|apply Q2|apply Q1|apply Q4)|exact HB.out)⟩⟩
 case rest =>
  clear HC3
  try clear c1
  try clear p2
  try clear c4
  try clear c4b0
  try clear c4b1
  try clear c5
  try clear c5b0
  try clear c5b1
  try clear c6
  try clear c6b0
  try clear p6
  try clear c7
  try clear p7
  try clear q7
  try clear hx7
  try clear qi7
  try clear c8
  try clear c10
  try clear JN
  try clear p2
  try clear qaC
  try clear qaE
  obtain ⟨kq,QY,HA,HJ2,HO_5,HB⟩:=hcut
  cases kq with
  | zero=>exact absurd HA.out (by simp [Q9.j1])
  | succ kj2 =>
   have H:=HA.out
   clear HA
   simp only [Q9.j1] at H
   replace H:=Option.bind_eq_some_iff.mp H
   obtain ⟨⟨YQ,Ws⟩,qeP,H⟩:=H
   replace H:(if Ws=0 then ((Qg.f kj2 l0 QY).bind fun qlO=>(Q9.j2 kj2 l0 l1 QY YQ Ws (!qlO))) else (Q9.j2 kj2 l0 l1 QY YQ Ws true))=some r:=H
   have A11:=Q0.mk qeP
   clear qeP
   have qpn:=Q0.mk H
   clear H
   obtain ⟨WZ,X0,qpN⟩:=Kd.R_slice HO_5.out
   subst qpN
   go_upto_region 7 with (first|((with_reducible refine Qz (f:=22) rfl ?_);refine Yo (some 37) rfl rfl Try.func22 (by kernel_rfl) rfl #[.slice A0 l0.length c0,.slice WZ QY.length X0] rfl (by (try simp only [List.map_toArray,List.map_cons,List.map_nil]);first|done|rfl|(simp only [List.length_drop,List.length_take];rfl)) ?_;(with_reducible refine (Qo.calls kj2 _ _ l0 _ _ QY YQ Ws _ ?side1 ?side2 ?side3 ?side4 A11.out).mono ?_);(case side1=>repeat (first|exact (Kd.C_below HR0.out HB.out)|(with_reducible refine Kd.C_alloc ?_ _)|(with_reducible refine Kd.C_drewN ?_ _)|(with_reducible refine Kd.C_drew ?_)));(case side2=>exact HC0.out);(case side3=>repeat (first|exact (Kd.R_reads' HO_5.out).2.2|(with_reducible refine Kd.C_alloc ?_ _)|(with_reducible refine Kd.C_drewN ?_ _)|(with_reducible refine Kd.C_drew ?_)));(case side4=>exact (Kd.R_reads' HO_5.out).2.1);rintro e w14 ⟨qj6,rfl,ho0,hb⟩;refine ⟨_,rfl,?_⟩;have n0_:=Q0.mk (Kd.R_below (by (with_reducible repeat (first|apply Kd.R_alloc|apply Kd.R_drewN|apply Kd.R_drew));exact HO_5.out) hb);have n1_:=Q0.mk (Kd.V_lower (Kd.V_mono (ok':=fun k_=>some k_≠(.slice WZ QY.length X0:Value).ownBlock) ho0 (fun k_ hk_=>(Kd.fresh' (Kd.R_lt (by (with_reducible repeat (first|apply Kd.R_alloc|apply Kd.R_drewN|apply Kd.R_drew));exact HO_5.out)) k_ hk_))) (Qe (by repeat (first|(with_reducible first|exact HB.out|apply Q2|apply Q1|apply Q4)|exact HB.out))));have n2_:=Q0.mk (Qi (by repeat (first|(with_reducible first|exact HB.out|apply Q2|apply Q1|apply Q4)|exact HB.out)) hb);clear HO_5 HB;have HO_5:=n0_;have qeV:=n1_;have HB:=n2_;clear n0_ n1_ n2_;(try clear hb);(try clear hb2);(try clear hk);(try clear hi);(try clear ho0)))
   (try simp only [Act.put,List.setIfInBounds_toArray,List.set_cons_zero,List.set_cons_succ])
   go_cut [47] (fun v47 wc => ∃ (kq:Nat) (qeI:Bool),v47 = .bool qeI∧Q0 (Q9.j2 kq l0 l1 QY YQ Ws qeI=some r)∧Q0 (kq≤kj2)∧Q0 (Kd.R k25 25 wc w.heap.size (fun _=>True) (.slice WZ QY.length X0) QY)∧Q0 (Kd.V k25 25 wc w.heap.size (fun k_=>some k_≠((.slice WZ QY.length X0):Value).ownBlock) qj6 YQ)∧Q0 (Below w.heap.size w wc))
   case first =>
    have H:=qpn.out;clear qpn
    by_cases c15:Ws=0
    ·
     as_aux_lemma =>
     rw [if_pos c15] at H;have c15b0:(Ws==0)=true:=beq_iff_eq.mpr c15;have c15b1:(Ws != 0)=false:=bne_eq_false_iff_eq.mpr c15;clear c15
     (first|rw [c15b0]|(simp only [Qp,Qq];rw [c15b0])|skip)
     replace H:=Option.bind_eq_some_iff.mp H;obtain ⟨qlO,qke,H⟩:=H;replace H:(Q9.j2 kj2 l0 l1 QY YQ Ws (!qlO))=some r:=H;have A16:=Q0.mk qke;clear qke;have H':=Q0.mk H;clear H
     go_wp2_with (first|(go_at_call 45;(with_reducible refine (Qg.calls kj2 _ _ l0 _ _ QY qlO _ ?side1 ?side2 ?side3 ?side4 A16.out).mono ?_);(case side1=>repeat (first|exact (Kd.C_below HR0.out HB.out)|(with_reducible refine Kd.C_alloc ?_ _)|(with_reducible refine Kd.C_drewN ?_ _)|(with_reducible refine Kd.C_drew ?_)));(case side2=>exact HC0.out);(case side3=>repeat (first|exact (Kd.R_reads' HO_5.out).2.2|(with_reducible refine Kd.C_alloc ?_ _)|(with_reducible refine Kd.C_drewN ?_ _)|(with_reducible refine Kd.C_drew ?_)));(case side4=>exact (Kd.R_reads' HO_5.out).2.1);rintro e w17 ⟨rfl,hb⟩;have n0_:=Q0.mk (Kd.R_below (by (with_reducible repeat (first|apply Kd.R_alloc|apply Kd.R_drewN|apply Kd.R_drew));exact HO_5.out) hb);have n1_:=Q0.mk (Kd.V_below (by (with_reducible repeat (first|apply Kd.V_alloc|apply Kd.V_drewN|apply Kd.V_drew));exact qeV.out) hb);have n2_:=Q0.mk (Qi (by repeat (first|(with_reducible first|exact HB.out|apply Q2|apply Q1|apply Q4)|exact HB.out)) hb);clear HO_5 qeV HB;have HO_5:=n0_;have qeV:=n1_;have HB:=n2_;clear n0_ n1_ n2_;(try clear hb);(try clear hb2);(try clear hk);(try clear hi)))
     go_meet
     case rel=>exact ⟨_,(!qlO),(by first|rfl|(simp;done)|(simp [*];done)),H',⟨by have:=HJ2.out;first|omega|exact Nat.le_refl _⟩,⟨by (with_reducible repeat (first|apply Kd.R_alloc|apply Kd.R_drewN|apply Kd.R_drew));exact HO_5.out⟩,⟨by (with_reducible repeat (first|apply Kd.V_alloc|apply Kd.V_drewN|apply Kd.V_drew));exact qeV.out⟩,⟨by repeat (first|(with_reducible first|exact HB.out|apply Q2|apply Q1|apply Q4)|exact HB.out)⟩⟩
    rw [if_neg c15] at H;have c15b0:(Ws==0)=false:=beq_eq_false_iff_ne.mpr c15;have c15b1:(Ws != 0)=true:=bne_iff_ne.mpr c15
    (first|rw [c15b0]|(simp only [Qp,Qq];rw [c15b0])|skip)
    have H':=Q0.mk H;clear H
    go_wp2
    go_meet
    case rel=>exact ⟨_,(true),(by first|rfl|(simp;done)|(simp [*];done)),H',⟨by have:=HJ2.out;first|omega|exact Nat.le_refl _⟩,⟨by (with_reducible repeat (first|apply Kd.R_alloc|apply Kd.R_drewN|apply Kd.R_drew));exact HO_5.out⟩,⟨by (with_reducible repeat (first|apply Kd.V_alloc|apply Kd.V_drewN|apply Kd.V_drew));exact qeV.out⟩,⟨by repeat (first|(with_reducible first|exact HB.out|apply Q2|apply Q1|apply Q4)|exact HB.out)⟩⟩
   case rest =>
    clear qpn;(try clear c1);(try clear c2);(try clear p2);(try clear c4);(try clear c4b0);(try clear c4b1);(try clear c5);(try clear c5b0);(try clear c5b1);(try clear c6);(try clear c6b0);(try clear p6);(try clear c7);(try clear p7);(try clear q7);(try clear hx7);(try clear qi7);(try clear c8);(try clear c10);(try clear c15);(try clear c15b0);(try clear c15b1);(try clear JN);(try clear p2);(try clear p6);(try clear p7);(try clear qaC);(try clear q7);(try clear qaE);obtain ⟨kq,qeI,rfl,HA,Wh,HO_5,HO_7,HB⟩:=hcut
    cases kq with
    | zero=>exact absurd HA.out (by simp [Q9.j2])
    | succ qjn =>
     have H:=HA.out;clear HA;simp only [Q9.j2] at H
     by_cases c18:qeI=true
     ·
      as_aux_lemma =>
      subst c18
      have H1:(if Ws=91 then (if (YQ.length:Int)=0 then ((Zt.f).bind fun qjY=>(some qjY)) else (some false)) else (some false))=some r:=by rw [if_pos rfl] at H;exact H
      clear H;have H:=H1;clear H1
      by_cases c19:Ws=91
      ·
       as_aux_lemma =>
       rw [if_pos c19] at H;have c19b0:(Ws==91)=true:=beq_iff_eq.mpr c19;have c19b1:(Ws != 91)=false:=bne_eq_false_iff_eq.mpr c19;clear c19
       by_cases c20:(YQ.length:Int)=0
       ·
        as_aux_lemma =>
        rw [if_pos c20] at H;have c20b0:((YQ.length:Int)==0)=true:=beq_iff_eq.mpr c20;have c20b1:((YQ.length:Int) != 0)=false:=bne_eq_false_iff_eq.mpr c20;clear c20;replace H:=Option.bind_eq_some_iff.mp H;obtain ⟨qjY,qkh,H⟩:=H;replace H:(some qjY)=some r:=H;have A21:=Q0.mk qkh;clear qkh;obtain rfl:=Option.some.inj H;obtain ⟨qDI,qDV,qAy⟩:=Kd.V_slice HO_7.out;subst qAy
        go_wp2_with (first|(go_at_call 21;(with_reducible refine (Zt.calls  qjY _ A21.out).mono ?_);rintro e w23 ⟨rfl,hb⟩;have n0_:=Q0.mk (Kd.R_below (by (with_reducible repeat (first|apply Kd.R_alloc|apply Kd.R_drewN|apply Kd.R_drew));exact HO_5.out) hb);have n1_:=Q0.mk (Kd.V_below (by (with_reducible repeat (first|apply Kd.V_alloc|apply Kd.V_drewN|apply Kd.V_drew));exact HO_7.out) hb);have n2_:=Q0.mk (Qi (by repeat (first|(with_reducible first|exact HB.out|apply Q2|apply Q1|apply Q4)|exact HB.out)) hb);clear HO_5 HO_7 HB;have HO_5:=n0_;have HO_7:=n1_;have HB:=n2_;clear n0_ n1_ n2_;(try clear hb);(try clear hb2);(try clear hk);(try clear hi)))
        go_ret
        exact ⟨by first|rfl|(simp [Qv,Qw]<;>rfl)|(simp [*,Qv,Qw]<;>rfl),by repeat (first|(with_reducible first|exact HB.out|apply Q2|apply Q1|apply Q4)|exact HB.out)⟩
       rw [if_neg c20] at H;have c20b0:((YQ.length:Int)==0)=false:=beq_eq_false_iff_ne.mpr c20;have c20b1:((YQ.length:Int) != 0)=true:=bne_iff_ne.mpr c20
       have c20b2:¬ (YQ=[]):=fun h_=>c20 (by rw [h_];rfl)
       obtain rfl:=Option.some.inj H;obtain ⟨qDJ,qDW,qAz⟩:=Kd.V_slice HO_7.out;subst qAz
       go_wp2
       go_ret
       exact ⟨by first|rfl|(simp [Qv,Qw]<;>rfl)|(simp [*,Qv,Qw]<;>rfl),by repeat (first|(with_reducible first|exact HB.out|apply Q2|apply Q1|apply Q4)|exact HB.out)⟩
      rw [if_neg c19] at H;have c19b0:(Ws==91)=false:=beq_eq_false_iff_ne.mpr c19;have c19b1:(Ws != 91)=true:=bne_iff_ne.mpr c19;obtain rfl:=Option.some.inj H
      go_wp2
      go_ret
      exact ⟨by first|rfl|(simp [Qv,Qw]<;>rfl)|(simp [*,Qv,Qw]<;>rfl),by repeat (first|(with_reducible first|exact HB.out|apply Q2|apply Q1|apply Q4)|exact HB.out)⟩
     as_aux_lemma =>
     replace c18:=Bool.eq_false_iff.mpr c18;subst c18
     have H1:((Yj.f qjn (l0.length:Int) l1).bind fun J8=>(Q9.l1 qjn l0 l1 QY YQ J8 ([]:List (S25)) 0))=some r:=by rw [if_neg (show ¬ (false=true) by decide)] at H;exact H
     clear H;have H:=H1;clear H1;replace H:=Option.bind_eq_some_iff.mp H;obtain ⟨J8,qqu,H⟩:=H;replace H:(Q9.l1 qjn l0 l1 QY YQ J8 ([]:List (S25)) 0)=some r:=H;have A25:=Q0.mk qqu;clear qqu;have H':=Q0.mk H;clear H
     go_wp2_with (first|((with_reducible refine Qz (f:=46) rfl ?_);refine Yo (some 61) rfl rfl Try.func46 (by kernel_rfl) rfl #[.int .i64 (l0.length:Int),.slice A1 l1.length c1] rfl (by (try simp only [List.map_toArray,List.map_cons,List.map_nil]);first|done|rfl|(simp only [List.length_drop,List.length_take];rfl)) ?_;(with_reducible refine (Yj.calls qjn (l0.length:Int) _ _ l1 J8 _ ?side1 ?side2 A25.out).mono ?_);(case side1=>repeat (first|exact (Kd.C_below HR1.out HB.out)|(with_reducible refine Kd.C_alloc ?_ _)|(with_reducible refine Kd.C_drewN ?_ _)|(with_reducible refine Kd.C_drew ?_)));(case side2=>exact HC1.out);rintro e w26 ⟨Xv,rfl,ho0,hb⟩;refine ⟨_,rfl,?_⟩;have n0_:=Q0.mk (Kd.R_below (by (with_reducible repeat (first|apply Kd.R_alloc|apply Kd.R_drewN|apply Kd.R_drew));exact HO_5.out) hb);have n1_:=Q0.mk (Kd.V_elder' (by (with_reducible repeat (first|apply Kd.V_alloc|apply Kd.V_drewN|apply Kd.V_drew));exact HO_7.out) (Kd.R_base ho0) hb);have n2_:=Q0.mk (Kd.R_lower ho0 (Qe (by repeat (first|(with_reducible first|exact HB.out|apply Q2|apply Q1|apply Q4)|exact HB.out))));have n3_:=Q0.mk (Qi (by repeat (first|(with_reducible first|exact HB.out|apply Q2|apply Q1|apply Q4)|exact HB.out)) hb);clear HO_5 HO_7 HB;have HO_5:=n0_;have HO_7:=n1_;have qrc:=n2_;have HB:=n3_;clear n0_ n1_ n2_ n3_;(try clear hb);(try clear hb2);(try clear hk);(try clear hi);(try clear ho0)))
     go_loopg [10,11] qjn (fun kq v10 v11 w' => ∃ (KM:List (S25)) (ZY:Int),v11 = .int .i64 ZY∧Q0 (Q9.l1 kq l0 l1 QY YQ J8 KM ZY=some r)∧Q0 (kq≤qjn)∧Q0 (Kd.R k25 25 w' w.heap.size (fun k_=>some k_≠(v10:Value).ownBlock) (.slice WZ QY.length X0) QY)∧Q0 (Kd.V k25 25 w' w.heap.size (fun k_=>some k_≠((.slice WZ QY.length X0):Value).ownBlock∧some k_≠(Xv:Value).ownBlock∧some k_≠(v10:Value).ownBlock) qj6 YQ)∧Q0 (Kd.R (Kd.int .i64) 3 w' w.heap.size (fun _=>True) Xv J8)∧Q0 (Kd.R k25 25 w' w.heap.size (fun k_=>some k_≠((.slice WZ QY.length X0):Value).ownBlock) v10 KM)∧Q0 (Below w.heap.size w w'))
     case atStart=>exact ⟨(([]:List (S25))),(0),(by first|rfl|(simp;done)|(simp [*];done)),H',⟨Nat.le_refl _⟩,⟨by (with_reducible repeat (first|apply Kd.R_alloc|apply Kd.R_drewN|apply Kd.R_drew));exact Kd.R_mono HO_5.out (fun _ hk=>(by simp [Value.ownBlock]))⟩,⟨by (with_reducible repeat (first|apply Kd.V_alloc|apply Kd.V_drewN|apply Kd.V_drew));exact Kd.V_mono HO_7.out (fun _ hk=>⟨hk.1,⟨hk.2,(by simp [Value.ownBlock])⟩⟩)⟩,⟨by (with_reducible repeat (first|apply Kd.R_alloc|apply Kd.R_drewN|apply Kd.R_drew));exact qrc.out⟩,⟨by first|exact Kd.R_nil _ _ _ _ _|exact Kd.N_nil _ _ _ _ _|exact Kd.V_nil _ _ _ _ _|exact Kd.Q_nil _ _ _ _ _|exact Kd.S_nil _ _ _ _ _⟩,⟨by repeat (first|(with_reducible first|exact HB.out|apply Q2|apply Q1|apply Q4)|exact HB.out)⟩⟩
     case round =>
      clear H';(try clear c1);(try clear c2);(try clear p2);(try clear c4);(try clear c4b0);(try clear c4b1);(try clear c5);(try clear c5b0);(try clear c5b1);(try clear c6);(try clear c6b0);(try clear p6);(try clear c7);(try clear p7);(try clear q7);(try clear hx7);(try clear qi7);(try clear c8);(try clear c10);(try clear c15);(try clear c15b0);(try clear c15b1);(try clear c18);(try clear c19);(try clear c19b0);(try clear c19b1);(try clear c20);(try clear c20b0);(try clear c20b1);(try clear c20b2);(try clear c22);(try clear JN);(try clear p2);(try clear p6);(try clear p7);(try clear qaC);(try clear q7);(try clear qaE);obtain ⟨KM,ZY,rfl,HA,HK3,HO_5,HO_7,HO_9,HO_10,HB⟩:=hrel
      cases gk with
      | zero=>exact absurd HA.out (by simp [Q9.l1])
      | succ k3 =>
       have H:=HA.out;clear HA;simp only [Q9.l1] at H
       by_cases c27:ZY<(QY.length:Int)
       ·
        as_aux_lemma =>
        rw [if_pos c27] at H;have c27b0:decide (ZY<(QY.length:Int))=true:=decide_eq_true c27;clear c27;have H':=Q0.mk H;clear H
        go_wp2
        go_loopg [12,13] k3 (fun kq v12 v13 w' => ∃ (Wu:Int) (YT:Int),v12 = .int .i64 Wu∧v13 = .int .i64 YT∧Q0 (Q9.l2 kq l0 l1 QY YQ J8 KM ZY Wu YT=some r)∧Q0 (kq≤k3)∧Q0 (Kd.R k25 25 w' w.heap.size (fun k_=>some k_≠(u10:Value).ownBlock) (.slice WZ QY.length X0) QY)∧Q0 (Kd.V k25 25 w' w.heap.size (fun k_=>some k_≠((.slice WZ QY.length X0):Value).ownBlock∧some k_≠(Xv:Value).ownBlock∧some k_≠(u10:Value).ownBlock) qj6 YQ)∧Q0 (Kd.R (Kd.int .i64) 3 w' w.heap.size (fun _=>True) Xv J8)∧Q0 (Kd.R k25 25 w' w.heap.size (fun k_=>some k_≠((.slice WZ QY.length X0):Value).ownBlock) u10 KM)∧Q0 (Below w.heap.size w w'))
        case atStart=>exact ⟨(0),(0),(by first|rfl|(simp;done)|(simp [*];done)),(by first|rfl|(simp;done)|(simp [*];done)),H',⟨Nat.le_refl _⟩,⟨by (with_reducible repeat (first|apply Kd.R_alloc|apply Kd.R_drewN|apply Kd.R_drew));exact HO_5.out⟩,⟨by (with_reducible repeat (first|apply Kd.V_alloc|apply Kd.V_drewN|apply Kd.V_drew));exact HO_7.out⟩,⟨by (with_reducible repeat (first|apply Kd.R_alloc|apply Kd.R_drewN|apply Kd.R_drew));exact HO_9.out⟩,⟨by (with_reducible repeat (first|apply Kd.R_alloc|apply Kd.R_drewN|apply Kd.R_drew));exact HO_10.out⟩,⟨by repeat (first|(with_reducible first|exact HB.out|apply Q2|apply Q1|apply Q4)|exact HB.out)⟩⟩
        case round =>
         clear H';(try clear c1);(try clear c2);(try clear p2);(try clear c4);(try clear c4b0);(try clear c4b1);(try clear c5);(try clear c5b0);(try clear c5b1);(try clear c6);(try clear c6b0);(try clear p6);(try clear c7);(try clear p7);(try clear q7);(try clear hx7);(try clear qi7);(try clear c8);(try clear c10);(try clear c15);(try clear c15b0);(try clear c15b1);(try clear c18);(try clear c19);(try clear c19b0);(try clear c19b1);(try clear c20);(try clear c20b0);(try clear c20b1);(try clear c20b2);(try clear c22);(try clear c27);(try clear c27b0);(try clear JN);(try clear p2);(try clear p6);(try clear p7);(try clear qaC);(try clear q7);(try clear qaE);obtain ⟨Wu,YT,rfl,rfl,HA,HK4,HO_5,HO_7,HO_9,HO_10,HB⟩:=hrel
         cases gk with
         | zero=>exact absurd HA.out (by simp [Q9.l2])
         | succ k4 =>
          have H:=HA.out;clear HA;simp only [Q9.l2] at H
          by_cases c28:YT<(l0.length:Int)
          ·
           as_aux_lemma =>
           rw [if_pos c28] at H;have c28b0:decide (YT<(l0.length:Int))=true:=decide_eq_true c28;clear c28
           by_cases c29:0≤YT
           ·
            as_aux_lemma =>
            rw [if_pos c29] at H;have c29b0:decide (0≤YT)=true:=decide_eq_true c29;clear c29
            by_cases c30:YT<(J8.length:Int)
            ·
             as_aux_lemma =>
             rw [if_pos c30] at H;have c30b0:decide (YT<(J8.length:Int))=true:=decide_eq_true c30;clear c30
             by_cases c31:0≤ZY
             ·
              as_aux_lemma =>
              rw [if_pos c31] at H;have c31b0:decide (0≤ZY)=true:=decide_eq_true c31;clear c31
              by_cases c32:ZY<((Yh l0 YT).length:Int)
              ·
               as_aux_lemma =>
               rw [if_pos c32] at H;have c32b0:decide (ZY<((Yh l0 YT).length:Int))=true:=decide_eq_true c32;clear c32;replace H:=Option.bind_eq_some_iff.mp H;obtain ⟨qjZ,qkj,H⟩:=H;replace H:((ZS.f ((Qs (Yh l0 YT) ZY).f0) ((Qs (Yh l0 YT) ZY).f1) qjZ).bind fun qhv=>(Q9.l2 k4 l0 l1 QY YQ J8 KM ZY (wrap64 (Wu+(wrap64 ((rd J8 YT)*qhv)))) (wrap64 (YT+1))))=some r:=H;have A33:=Q0.mk qkj;clear qkj;replace H:=Option.bind_eq_some_iff.mp H;obtain ⟨qhv,qqA,H⟩:=H;replace H:(Q9.l2 k4 l0 l1 QY YQ J8 KM ZY (wrap64 (Wu+(wrap64 ((rd J8 YT)*qhv)))) (wrap64 (YT+1)))=some r:=H;have A34:=Q0.mk qqA;clear qqA;have H':=Q0.mk H;clear H
               try go_wp2
               have n0_:=Q0.mk (Kd.R_drew HO_5.out);have n1_:=Q0.mk (Kd.V_drew HO_7.out);have n2_:=Q0.mk (Kd.R_drew HO_9.out);have n3_:=Q0.mk (Kd.R_drew HO_10.out);have n4_:=Q0.mk (Q4 HB.out);clear HO_5 HO_7 HO_9 HO_10 HB;have HO_5:=n0_;have HO_7:=n1_;have HO_9:=n2_;have HO_10:=n3_;have HB:=n4_;clear n0_ n1_ n2_ n3_ n4_;obtain ⟨qkl,qkP,qmh⟩:=Kd.R_slice HO_9.out
               (first|subst qmh|(injection qmh with f1_ f2_ f3_;have f4_:=f1_.symm;have f5_:=f3_.symm;clear f1_ f2_ f3_;subst f4_;subst f5_))
               have qjs:0≤(YT:Int):=of_decide_eq_true (by first|(with_reducible assumption)|assumption);have qjx:YT<(J8.length:Int):=of_decide_eq_true (by first|(with_reducible assumption)|assumption);obtain ⟨qrC,qAo,qat⟩:=Kd.at_int (Kd.R_reads' HO_9.out).2.2 YT qjs qjx;cases qAo;replace qjs:=eq_true qjs;replace qjx:=eq_true qjx;have qjt:0≤(YT:Int):=of_decide_eq_true (by first|(with_reducible assumption)|assumption);have qjy:YT<(l0.length:Int):=of_decide_eq_true (by first|(with_reducible assumption)|assumption);obtain ⟨qkG,qzT,qkM,qAp,Ou,qiH,qiu⟩:=XE HR0.out YT qjt qjy;have WJ:=Ou;cases qAp;replace Ou:=(HB.out.cell (World.block_lt_of_cell? w _ Ou)).trans Ou;have qhZ:=Q0.mk qiu;have qt4:=Q0.mk qiH;clear qiu qiH;replace qjt:=eq_true qjt;replace qjy:=eq_true qjy;have qju:0≤(ZY:Int):=of_decide_eq_true (by first|(with_reducible assumption)|assumption);have qjz:ZY<((Yh l0 YT).length:Int):=of_decide_eq_true (by first|(with_reducible assumption)|assumption);obtain ⟨qa5,qAq,Uj,Uk⟩:=JM qhZ.out ZY qju qjz;have WM:=Uk;have WK:=Uj;cases qAq;replace Uj:=(HB.out.cell (World.block_lt_of_cell? w _ Uj)).trans Uj;replace Uk:=(HB.out.cell (World.block_lt_of_cell? w _ Uk)).trans Uk;replace qju:=eq_true qju;replace qjz:=eq_true qjz;have qjv:0≤(YT:Int):=of_decide_eq_true (by first|(with_reducible assumption)|assumption);have qjA:YT<(l0.length:Int):=of_decide_eq_true (by first|(with_reducible assumption)|assumption);obtain ⟨qrD,qzU,qz9,qAr,Ov,qiI,qiv⟩:=XE HR0.out YT qjv qjA;have WN:=Ov;obtain rfl:qkG=qrD:=(by injection qAr);replace Ov:=(HB.out.cell (World.block_lt_of_cell? w _ Ov)).trans Ov;have qh0:=Q0.mk qiv;have qt5:=Q0.mk qiI;clear qiv qiI;replace qjv:=eq_true qjv;replace qjA:=eq_true qjA;have ea_:=Option.some.inj (Ou.symm.trans Ov)
               injection ea_ with ea_ en_ ec_
               subst ea_;subst ec_;clear en_;have qjw:0≤(ZY:Int):=of_decide_eq_true (by first|(with_reducible assumption)|assumption);have qjB:ZY<((Yh l0 YT).length:Int):=of_decide_eq_true (by first|(with_reducible assumption)|assumption);obtain ⟨qB0,qAs,Ul,Um⟩:=JM qh0.out ZY qjw qjB;have WP:=Um;have WO:=Ul;cases qAs;replace Ul:=(HB.out.cell (World.block_lt_of_cell? w _ Ul)).trans Ul;replace Um:=(HB.out.cell (World.block_lt_of_cell? w _ Um)).trans Um;replace qjw:=eq_true qjw;replace qjB:=eq_true qjB;refine Kr (n:=32) (S:=fun w'=>w'.cell? (qrC.add (YT).toNat)=some (.int .i64 (rd J8 YT))∧w'.cell? (qkG.add (YT).toNat)=some (.slice (some qa5) (Yh l0 YT).length qkM)∧w'.cell? (qa5.add ((ZY).toNat*2))=some (.int .i64 ((Qs (Yh l0 YT) ZY).f0))∧w'.cell? ⟨(qa5.add ((ZY).toNat*2)).block,(qa5.add ((ZY).toNat*2)).off+1,none⟩=some (.int .i64 ((Qs (Yh l0 YT) ZY).f1))∧w'.cell? (qkG.add (YT).toNat)=some (.slice (some qa5) (Yh l0 YT).length qkM)∧w'.cell? (qa5.add ((ZY).toNat*2))=some (.int .i64 ((Qs (Yh l0 YT) ZY).f0))∧w'.cell? ⟨(qa5.add ((ZY).toNat*2)).block,(qa5.add ((ZY).toNat*2)).off+1,none⟩=some (.int .i64 ((Qs (Yh l0 YT) ZY).f1))) (ds:=[]) #[false,false,false,false,false,false,false,false,false,false,false,false,false,false,false,false,false,false,false,false,false,false,false,false,false,false,false,false,false,false,false,false] (by kernel_rfl) rfl rfl ⟨qat,((HB.out.cell (World.block_lt_of_cell? w _ WJ)).trans WJ),((HB.out.cell (World.block_lt_of_cell? w _ WK)).trans WK),((HB.out.cell (World.block_lt_of_cell? w _ WM)).trans WM),((HB.out.cell (World.block_lt_of_cell? w _ WN)).trans WN),((HB.out.cell (World.block_lt_of_cell? w _ WO)).trans WO),((HB.out.cell (World.block_lt_of_cell? w _ WP)).trans WP)⟩ (fun hHeld => ?_);refine JC Q9.tab18 Q9.bits18 (fun HT_ HW_ => ?_)
               generalize wr.drew=w35 at HO_5 HO_7 HO_9 HO_10 HB qhZ qh0 qat Ou Uj Uk Ov Ul Um hHeld ⊢
               refine Qx (i:=0) (N:=some 74) (v:=?_) (a':=?_) #[true,false,false,false,false,false,false,false,false,false,false,false,false,false,false,false,false,false,false,false,false,false,false,false,false,false,false,false,false,false,false,false] rfl rfl (Qr HT_.out (by kernel_rfl)) (fun _ _ _ h=>h) (Or.inl ⟨by rfl,?_⟩) ?_ ?_
               rotate_left
               ·
                intro w'
                go_simp
                with_reducible rfl
               rotate_left
               ·
                simp only [Act.put,List.setIfInBounds_toArray,List.set_cons_zero,List.set_cons_succ,Qp,Qq]
                rfl
               refine Qx (i:=1) (N:=some 75) (v:=?_) (a':=?_) #[true,true,false,false,false,false,false,false,false,false,false,false,false,false,false,false,false,false,false,false,false,false,false,false,false,false,false,false,false,false,false,false] rfl rfl (Qr HT_.out (by kernel_rfl)) (fun _ _ _ h=>h) (Or.inl ⟨by rfl,?_⟩) ?_ ?_
               rotate_left
               ·
                intro w'
                go_simp
                with_reducible rfl
               rotate_left
               ·
                simp only [Act.put,List.setIfInBounds_toArray,List.set_cons_zero,List.set_cons_succ,Qp,Qq]
                rfl
               refine Qx (i:=2) (N:=some 76) (v:=?_) (a':=?_) #[true,true,true,false,false,false,false,false,false,false,false,false,false,false,false,false,false,false,false,false,false,false,false,false,false,false,false,false,false,false,false,false] rfl rfl (Qr HT_.out (by kernel_rfl)) (fun _ _ _ h=>h) (Or.inl ⟨by rfl,?_⟩) ?_ ?_
               rotate_left
               ·
                intro w'
                go_simp
                with_reducible rfl
               rotate_left
               ·
                simp only [Act.put,List.setIfInBounds_toArray,List.set_cons_zero,List.set_cons_succ,Qp,Qq]
                rfl
               refine Qx (i:=3) (N:=some 77) (v:=?_) (a':=?_) #[true,true,true,true,false,false,false,false,false,false,false,false,false,false,false,false,false,false,false,false,false,false,false,false,false,false,false,false,false,false,false,false] rfl rfl (Qr HT_.out (by kernel_rfl)) (fun _ _ _ h=>h) (Or.inl ⟨by rfl,?_⟩) ?_ ?_
               rotate_left
               ·
                intro w'
                go_simp
                with_reducible rfl
               rotate_left
               ·
                simp only [Act.put,List.setIfInBounds_toArray,List.set_cons_zero,List.set_cons_succ,Qp,Qq]
                rfl
               refine Qx (i:=5) (N:=some 79) (v:=?_) (a':=?_) #[true,true,true,true,false,true,false,false,false,false,false,false,false,false,false,false,false,false,false,false,false,false,false,false,false,false,false,false,false,false,false,false] rfl rfl (Qr HT_.out (by kernel_rfl)) (fun _ _ _ h=>h) (Or.inl ⟨by rfl,?_⟩) ?_ ?_
               rotate_left
               ·
                intro w'
                go_simp
                with_reducible rfl
               rotate_left
               ·
                simp only [Act.put,List.setIfInBounds_toArray,List.set_cons_zero,List.set_cons_succ,Qp,Qq]
                rfl
               refine Qx (i:=6) (N:=some 80) (v:=?_) (a':=?_) #[true,true,true,true,false,true,true,false,false,false,false,false,false,false,false,false,false,false,false,false,false,false,false,false,false,false,false,false,false,false,false,false] rfl rfl (Qr HT_.out (by kernel_rfl)) (fun _ _ _ h=>h) (Or.inl ⟨by rfl,?_⟩) ?_ ?_
               rotate_left
               ·
                intro w'
                go_simp
                with_reducible rfl
               rotate_left
               ·
                simp only [Act.put,List.setIfInBounds_toArray,List.set_cons_zero,List.set_cons_succ,Qp,Qq]
                rfl
               refine Qx (i:=7) (N:=some 81) (v:=?_) (a':=?_) #[true,true,true,true,false,true,true,true,false,false,false,false,false,false,false,false,false,false,false,false,false,false,false,false,false,false,false,false,false,false,false,false] rfl rfl (Qr HT_.out (by kernel_rfl)) (fun _ _ _ h=>h) (Or.inl ⟨by rfl,?_⟩) ?_ ?_
               rotate_left
               ·
                intro w'
                go_simp
                with_reducible rfl
               rotate_left
               ·
                simp only [Act.put,List.setIfInBounds_toArray,List.set_cons_zero,List.set_cons_succ,Qp,Qq]
                rfl
               refine Qx (i:=9) (N:=some 83) (v:=?_) (a':=?_) #[true,true,true,true,false,true,true,true,false,true,false,false,false,false,false,false,false,false,false,false,false,false,false,false,false,false,false,false,false,false,false,false] rfl rfl (Qr HT_.out (by kernel_rfl)) (fun _ _ _ h=>h) (Or.inl ⟨by rfl,?_⟩) ?_ ?_
               rotate_left
               ·
                intro w'
                go_simp
                with_reducible rfl
               rotate_left
               ·
                simp only [Act.put,List.setIfInBounds_toArray,List.set_cons_zero,List.set_cons_succ,Qp,Qq]
                rfl
               refine Qx (i:=13) (N:=some 87) (v:=?_) (a':=?_) #[true,true,true,true,false,true,true,true,false,true,false,false,false,true,false,false,false,false,false,false,false,false,false,false,false,false,false,false,false,false,false,false] rfl rfl (Qr HT_.out (by kernel_rfl)) (fun _ _ _ h=>h) (Or.inl ⟨by rfl,?_⟩) ?_ ?_
               rotate_left
               ·
                intro w'
                go_simp
                with_reducible rfl
               rotate_left
               ·
                simp only [Act.put,List.setIfInBounds_toArray,List.set_cons_zero,List.set_cons_succ,Qp,Qq]
                rfl
               refine Qx (i:=14) (N:=some 88) (v:=?_) (a':=?_) #[true,true,true,true,false,true,true,true,false,true,false,false,false,true,true,false,false,false,false,false,false,false,false,false,false,false,false,false,false,false,false,false] rfl rfl (Qr HT_.out (by kernel_rfl)) (fun _ _ _ h=>h) (Or.inl ⟨by rfl,?_⟩) ?_ ?_
               rotate_left
               ·
                intro w'
                go_simp
                with_reducible rfl
               rotate_left
               ·
                simp only [Act.put,List.setIfInBounds_toArray,List.set_cons_zero,List.set_cons_succ,Qp,Qq]
                rfl
               refine Qx (i:=15) (N:=some 89) (v:=?_) (a':=?_) #[true,true,true,true,false,true,true,true,false,true,false,false,false,true,true,true,false,false,false,false,false,false,false,false,false,false,false,false,false,false,false,false] rfl rfl (Qr HT_.out (by kernel_rfl)) (fun _ _ _ h=>h) (Or.inl ⟨by rfl,?_⟩) ?_ ?_
               rotate_left
               ·
                intro w'
                go_simp
                with_reducible rfl
               rotate_left
               ·
                simp only [Act.put,List.setIfInBounds_toArray,List.set_cons_zero,List.set_cons_succ,Qp,Qq]
                rfl
               refine Qx (i:=17) (N:=some 91) (v:=?_) (a':=?_) #[true,true,true,true,false,true,true,true,false,true,false,false,false,true,true,true,false,true,false,false,false,false,false,false,false,false,false,false,false,false,false,false] rfl rfl (Qr HT_.out (by kernel_rfl)) (fun _ _ _ h=>h) (Or.inl ⟨by rfl,?_⟩) ?_ ?_
               rotate_left
               ·
                intro w'
                go_simp
                with_reducible rfl
               rotate_left
               ·
                simp only [Act.put,List.setIfInBounds_toArray,List.set_cons_zero,List.set_cons_succ,Qp,Qq]
                rfl
               refine Qx (i:=21) (N:=some 95) (v:=?_) (a':=?_) #[true,true,true,true,false,true,true,true,false,true,false,false,false,true,true,true,false,true,false,false,false,true,false,false,false,false,false,false,false,false,false,false] rfl rfl (Qr HT_.out (by kernel_rfl)) (fun _ _ _ h=>h) (Or.inl ⟨by rfl,?_⟩) ?_ ?_
               rotate_left
               ·
                intro w'
                go_simp
                with_reducible rfl
               rotate_left
               ·
                simp only [Act.put,List.setIfInBounds_toArray,List.set_cons_zero,List.set_cons_succ,Qp,Qq]
                rfl
               refine Qx (i:=22) (N:=some 96) (v:=?_) (a':=?_) #[true,true,true,true,false,true,true,true,false,true,false,false,false,true,true,true,false,true,false,false,false,true,true,false,false,false,false,false,false,false,false,false] rfl rfl (Qr HT_.out (by kernel_rfl)) (fun _ _ _ h=>h) (Or.inl ⟨by rfl,?_⟩) ?_ ?_
               rotate_left
               ·
                intro w'
                go_simp
                with_reducible rfl
               rotate_left
               ·
                simp only [Act.put,List.setIfInBounds_toArray,List.set_cons_zero,List.set_cons_succ,Qp,Qq]
                rfl
               refine Qx (i:=23) (N:=some 97) (v:=?_) (a':=?_) #[true,true,true,true,false,true,true,true,false,true,false,false,false,true,true,true,false,true,false,false,false,true,true,true,false,false,false,false,false,false,false,false] rfl rfl (Qr HT_.out (by kernel_rfl)) (fun _ _ _ h=>h) (Or.inl ⟨by rfl,?_⟩) ?_ ?_
               rotate_left
               ·
                intro w'
                go_simp
                with_reducible rfl
               rotate_left
               ·
                simp only [Act.put,List.setIfInBounds_toArray,List.set_cons_zero,List.set_cons_succ,Qp,Qq]
                rfl
               refine Qx (i:=24) (N:=some 98) (v:=?_) (a':=?_) #[true,true,true,true,false,true,true,true,false,true,false,false,false,true,true,true,false,true,false,false,false,true,true,true,true,false,false,false,false,false,false,false] rfl rfl (Qr HT_.out (by kernel_rfl)) (fun _ _ _ h=>h) (Or.inl ⟨by rfl,?_⟩) ?_ ?_
               rotate_left
               ·
                intro w'
                go_simp
                with_reducible rfl
               rotate_left
               ·
                simp only [Act.put,List.setIfInBounds_toArray,List.set_cons_zero,List.set_cons_succ,Qp,Qq]
                rfl
               refine Qx (i:=25) (N:=some 99) (v:=?_) (a':=?_) #[true,true,true,true,false,true,true,true,false,true,false,false,false,true,true,true,false,true,false,false,false,true,true,true,true,true,false,false,false,false,false,false] rfl rfl (Qr HT_.out (by kernel_rfl)) (fun _ _ _ h=>h) (Or.inl ⟨by rfl,?_⟩) ?_ ?_
               rotate_left
               ·
                intro w'
                go_simp
                with_reducible rfl
               rotate_left
               ·
                simp only [Act.put,List.setIfInBounds_toArray,List.set_cons_zero,List.set_cons_succ,Qp,Qq]
                rfl
               refine Qx (i:=26) (N:=some 100) (v:=?_) (a':=?_) #[true,true,true,true,false,true,true,true,false,true,false,false,false,true,true,true,false,true,false,false,false,true,true,true,true,true,true,false,false,false,false,false] rfl rfl (Qr HT_.out (by kernel_rfl)) (fun _ _ _ h=>h) (Or.inl ⟨by rfl,?_⟩) ?_ ?_
               rotate_left
               ·
                intro w'
                go_simp
                with_reducible rfl
               rotate_left
               ·
                simp only [Act.put,List.setIfInBounds_toArray,List.set_cons_zero,List.set_cons_succ,Qp,Qq]
                rfl
               refine JG (i:=4) (N:=some 78) (v:=?_) (a':=?_) #[true,true,true,true,true,true,true,true,false,true,false,false,false,true,true,true,false,true,false,false,false,true,true,true,true,true,true,false,false,false,false,false] rfl rfl (Z8 HT_.out HW_.out (by kernel_rfl)) (fun _ _ _ h=>h) (Or.inl ⟨by rfl,?_⟩) hHeld ?_ ?_
               rotate_left
               ·
                rintro w' ⟨s0,s1,s2,s3,s4,s5,s6⟩
                go_simp
                with_reducible rfl
               rotate_left
               ·
                simp only [Act.put,List.setIfInBounds_toArray,List.set_cons_zero,List.set_cons_succ,Qp,Qq]
                rfl
               refine JG (i:=8) (N:=some 82) (v:=?_) (a':=?_) #[true,true,true,true,true,true,true,true,true,true,false,false,false,true,true,true,false,true,false,false,false,true,true,true,true,true,true,false,false,false,false,false] rfl rfl (Z8 HT_.out HW_.out (by kernel_rfl)) (fun _ _ _ h=>h) (Or.inl ⟨by rfl,?_⟩) hHeld ?_ ?_
               rotate_left
               ·
                rintro w' ⟨s0,s1,s2,s3,s4,s5,s6⟩
                go_simp
                with_reducible rfl
               rotate_left
               ·
                simp only [Act.put,List.setIfInBounds_toArray,List.set_cons_zero,List.set_cons_succ,Qp,Qq]
                rfl
               refine Qx (i:=10) (N:=some 84) (v:=?_) (a':=?_) #[true,true,true,true,true,true,true,true,true,true,true,false,false,true,true,true,false,true,false,false,false,true,true,true,true,true,true,false,false,false,false,false] rfl rfl (Qr HT_.out (by kernel_rfl)) (fun _ _ _ h=>h) (Or.inl ⟨by rfl,?_⟩) ?_ ?_
               rotate_left
               ·
                intro w'
                go_simp
                with_reducible rfl
               rotate_left
               ·
                simp only [Act.put,List.setIfInBounds_toArray,List.set_cons_zero,List.set_cons_succ,Qp,Qq]
                rfl
               refine Qx (i:=11) (N:=some 85) (v:=?_) (a':=?_) #[true,true,true,true,true,true,true,true,true,true,true,true,false,true,true,true,false,true,false,false,false,true,true,true,true,true,true,false,false,false,false,false] rfl rfl (Qr HT_.out (by kernel_rfl)) (fun _ _ _ h=>h) (Or.inl ⟨by rfl,?_⟩) ?_ ?_
               rotate_left
               ·
                intro w'
                go_simp
                with_reducible rfl
               rotate_left
               ·
                simp only [Act.put,List.setIfInBounds_toArray,List.set_cons_zero,List.set_cons_succ,Qp,Qq]
                rfl
               refine JG (i:=12) (N:=some 86) (v:=?_) (a':=?_) #[true,true,true,true,true,true,true,true,true,true,true,true,true,true,true,true,false,true,false,false,false,true,true,true,true,true,true,false,false,false,false,false] rfl rfl (Z8 HT_.out HW_.out (by kernel_rfl)) (fun _ _ _ h=>h) (Or.inl ⟨by rfl,?_⟩) hHeld ?_ ?_
               rotate_left
               ·
                rintro w' ⟨s0,s1,s2,s3,s4,s5,s6⟩
                go_simp
                with_reducible rfl
               rotate_left
               ·
                simp only [Act.put,List.setIfInBounds_toArray,List.set_cons_zero,List.set_cons_succ,Qp,Qq]
                rfl
               refine JG (i:=16) (N:=some 90) (v:=?_) (a':=?_) #[true,true,true,true,true,true,true,true,true,true,true,true,true,true,true,true,true,true,false,false,false,true,true,true,true,true,true,false,false,false,false,false] rfl rfl (Z8 HT_.out HW_.out (by kernel_rfl)) (fun _ _ _ h=>h) (Or.inl ⟨by rfl,?_⟩) hHeld ?_ ?_
               rotate_left
               ·
                rintro w' ⟨s0,s1,s2,s3,s4,s5,s6⟩
                go_simp
                with_reducible rfl
               rotate_left
               ·
                simp only [Act.put,List.setIfInBounds_toArray,List.set_cons_zero,List.set_cons_succ,Qp,Qq]
                rfl
               refine Qx (i:=18) (N:=some 92) (v:=?_) (a':=?_) #[true,true,true,true,true,true,true,true,true,true,true,true,true,true,true,true,true,true,true,false,false,true,true,true,true,true,true,false,false,false,false,false] rfl rfl (Qr HT_.out (by kernel_rfl)) (fun _ _ _ h=>h) (Or.inl ⟨by rfl,?_⟩) ?_ ?_
               rotate_left
               ·
                intro w'
                go_simp
                with_reducible rfl
               rotate_left
               ·
                simp only [Act.put,List.setIfInBounds_toArray,List.set_cons_zero,List.set_cons_succ,Qp,Qq]
                rfl
               refine Qx (i:=19) (N:=some 93) (v:=?_) (a':=?_) #[true,true,true,true,true,true,true,true,true,true,true,true,true,true,true,true,true,true,true,true,false,true,true,true,true,true,true,false,false,false,false,false] rfl rfl (Qr HT_.out (by kernel_rfl)) (fun _ _ _ h=>h) (Or.inl ⟨by rfl,?_⟩) ?_ ?_
               rotate_left
               ·
                intro w'
                go_simp
                with_reducible rfl
               rotate_left
               ·
                simp only [Act.put,List.setIfInBounds_toArray,List.set_cons_zero,List.set_cons_succ,Qp,Qq]
                rfl
               refine JG (i:=20) (N:=some 94) (v:=?_) (a':=?_) #[true,true,true,true,true,true,true,true,true,true,true,true,true,true,true,true,true,true,true,true,true,true,true,true,true,true,true,false,false,false,false,false] rfl rfl (Z8 HT_.out HW_.out (by kernel_rfl)) (fun _ _ _ h=>h) (Or.inl ⟨by rfl,?_⟩) hHeld ?_ ?_
               rotate_left
               ·
                rintro w' ⟨s0,s1,s2,s3,s4,s5,s6⟩
                go_simp
                with_reducible rfl
               rotate_left
               ·
                simp only [Act.put,List.setIfInBounds_toArray,List.set_cons_zero,List.set_cons_succ,Qp,Qq]
                rfl
               refine one_ (i:=27) (N:=some 101) #[true,true,true,true,true,true,true,true,true,true,true,true,true,true,true,true,true,true,true,true,true,true,true,true,true,true,true,true,false,false,false,false] rfl rfl (JE HT_.out (by kernel_rfl)) (by decide) (fun K hK => ?_);refine Kv Try.func42 (by kernel_rfl) rfl #[.slice A1 l1.length c1,.int .i64 (wrap64 ((wrap64 ((wrap64 (3*ZY))+YT))+2))] (by rfl) rfl rfl (by (try simp only [List.map_toArray,List.map_cons,List.map_nil]);first|done|rfl|(simp only [List.length_drop,List.length_take];rfl)) ?_
               with_reducible refine (ZT.calls _ _ l1 (wrap64 ((wrap64 ((wrap64 (3*ZY))+YT))+2)) qjZ _ ?side1 ?side2 A33.out).mono ?_
               (case side1=>repeat (first|exact (Kd.C_below HR1.out HB.out)|(with_reducible refine Kd.C_alloc ?_ _)|(with_reducible refine Kd.C_drewN ?_ _)|(with_reducible refine Kd.C_drew ?_)))
               (case side2=>exact HC1.out)
               rintro e w' ⟨rfl,⟨nd,rfl⟩⟩;refine ⟨_,rfl,?_⟩;refine hK.out _ _ ⟨hHeld.1,((HB.out.cell (World.block_lt_of_cell? w _ WJ)).trans WJ),((HB.out.cell (World.block_lt_of_cell? w _ WK)).trans WK),((HB.out.cell (World.block_lt_of_cell? w _ WM)).trans WM),((HB.out.cell (World.block_lt_of_cell? w _ WN)).trans WN),((HB.out.cell (World.block_lt_of_cell? w _ WO)).trans WO),((HB.out.cell (World.block_lt_of_cell? w _ WP)).trans WP)⟩ (fun hHeld => ?_);clear hK K;refine Jr (a':=?_) ?_ ?_
               rotate_left
               ·
                show Act.put _ (some 101) _=_
                simp only [Act.put,List.setIfInBounds_toArray,List.set_cons_zero,List.set_cons_succ,Qp,Qq]
                rfl
               refine one_ (i:=28) (N:=some 102) #[true,true,true,true,true,true,true,true,true,true,true,true,true,true,true,true,true,true,true,true,true,true,true,true,true,true,true,true,true,false,false,false] rfl rfl (JE HT_.out (by kernel_rfl)) (by decide) (fun K hK => ?_);refine Kv Try.func39 (by kernel_rfl) rfl #[.int .i64 ((Qs (Yh l0 YT) ZY).f0),.int .i64 ((Qs (Yh l0 YT) ZY).f1),.int .i64 qjZ] (by rfl) rfl rfl (by (try simp only [List.map_toArray,List.map_cons,List.map_nil]);first|done|rfl|(simp only [List.length_drop,List.length_take];rfl)) ?_
               with_reducible refine (ZS.calls ((Qs (Yh l0 YT) ZY).f0) ((Qs (Yh l0 YT) ZY).f1) qjZ qhv _ A34.out).mono ?_
               rintro e w37 ⟨rfl,hb⟩;have HS0_:=(hb.cell (World.block_lt_of_cell? _ _ (hHeld.1))).trans (hHeld.1);refine ⟨_,rfl,?_⟩;have n0_:=Q0.mk (Kd.R_below (by (with_reducible repeat (first|apply Kd.R_alloc|apply Kd.R_drewN|apply Kd.R_drew));exact HO_5.out) hb);have n1_:=Q0.mk (Kd.V_below (by (with_reducible repeat (first|apply Kd.V_alloc|apply Kd.V_drewN|apply Kd.V_drew));exact HO_7.out) hb);have n2_:=Q0.mk (Kd.R_below (by (with_reducible repeat (first|apply Kd.R_alloc|apply Kd.R_drewN|apply Kd.R_drew));exact HO_9.out) hb);have n3_:=Q0.mk (Kd.R_below (by (with_reducible repeat (first|apply Kd.R_alloc|apply Kd.R_drewN|apply Kd.R_drew));exact HO_10.out) hb);have n4_:=Q0.mk (Qi (by repeat (first|(with_reducible first|exact HB.out|apply Q2|apply Q1|apply Q4)|exact HB.out)) hb);clear HO_5 HO_7 HO_9 HO_10 HB;have HO_5:=n0_;have HO_7:=n1_;have HO_9:=n2_;have HO_10:=n3_;have HB:=n4_;clear n0_ n1_ n2_ n3_ n4_
               (try clear hb)
               (try clear hb2)
               (try clear hk)
               (try clear hi)
               refine hK.out _ _ ⟨HS0_,((HB.out.cell (World.block_lt_of_cell? w _ WJ)).trans WJ),((HB.out.cell (World.block_lt_of_cell? w _ WK)).trans WK),((HB.out.cell (World.block_lt_of_cell? w _ WM)).trans WM),((HB.out.cell (World.block_lt_of_cell? w _ WN)).trans WN),((HB.out.cell (World.block_lt_of_cell? w _ WO)).trans WO),((HB.out.cell (World.block_lt_of_cell? w _ WP)).trans WP)⟩ (fun hHeld => ?_);clear hK K;refine Jr (a':=?_) ?_ ?_
               rotate_left
               ·
                show Act.put _ (some 102) _=_
                simp only [Act.put,List.setIfInBounds_toArray,List.set_cons_zero,List.set_cons_succ,Qp,Qq]
                rfl
               refine Qx (i:=29) (N:=some 103) (v:=?_) (a':=?_) #[true,true,true,true,true,true,true,true,true,true,true,true,true,true,true,true,true,true,true,true,true,true,true,true,true,true,true,true,true,true,false,false] rfl rfl (Qr HT_.out (by kernel_rfl)) (fun _ _ _ h=>h) (Or.inl ⟨by rfl,?_⟩) ?_ ?_
               rotate_left
               ·
                intro w'
                go_simp
                with_reducible rfl
               rotate_left
               ·
                simp only [Act.put,List.setIfInBounds_toArray,List.set_cons_zero,List.set_cons_succ,Qp,Qq]
                rfl
               refine Qx (i:=30) (N:=some 104) (v:=?_) (a':=?_) #[true,true,true,true,true,true,true,true,true,true,true,true,true,true,true,true,true,true,true,true,true,true,true,true,true,true,true,true,true,true,true,false] rfl rfl (Qr HT_.out (by kernel_rfl)) (fun _ _ _ h=>h) (Or.inl ⟨by rfl,?_⟩) ?_ ?_
               rotate_left
               ·
                intro w'
                go_simp
                with_reducible rfl
               rotate_left
               ·
                simp only [Act.put,List.setIfInBounds_toArray,List.set_cons_zero,List.set_cons_succ,Qp,Qq]
                rfl
               refine Qx (i:=31) (N:=some 12) (v:=?_) (a':=?_) #[true,true,true,true,true,true,true,true,true,true,true,true,true,true,true,true,true,true,true,true,true,true,true,true,true,true,true,true,true,true,true,true] rfl rfl (Qr HT_.out (by kernel_rfl)) (fun _ _ _ h=>h) (Or.inl ⟨by rfl,?_⟩) ?_ ?_
               rotate_left
               ·
                intro w'
                go_simp
                with_reducible rfl
               rotate_left
               ·
                simp only [Act.put,List.setIfInBounds_toArray,List.set_cons_zero,List.set_cons_succ,Qp,Qq]
                rfl
               refine OC (Gi HT_.out (by kernel_rfl)) ?_
               try go_wp2
               go_roundg k4
               case measure=>have:=HJ2.out;have:=Wh.out;have:=HK3.out;have:=HK4.out;omega
               case rel=>exact ⟨(wrap64 (Wu+(wrap64 ((rd J8 YT)*qhv)))),(wrap64 (YT+1)),(by first|rfl|(simp;done)|(simp [*];done)),(by first|rfl|(simp;done)|(simp [*];done)),H',⟨by have:=HJ2.out;have:=Wh.out;have:=HK3.out;have:=HK4.out;omega⟩,⟨by (with_reducible repeat (first|apply Kd.R_alloc|apply Kd.R_drewN|apply Kd.R_drew));exact HO_5.out⟩,⟨by (with_reducible repeat (first|apply Kd.V_alloc|apply Kd.V_drewN|apply Kd.V_drew));exact HO_7.out⟩,⟨by (with_reducible repeat (first|apply Kd.R_alloc|apply Kd.R_drewN|apply Kd.R_drew));exact HO_9.out⟩,⟨by (with_reducible repeat (first|apply Kd.R_alloc|apply Kd.R_drewN|apply Kd.R_drew));exact HO_10.out⟩,⟨by repeat (first|(with_reducible first|exact HB.out|apply Q2|apply Q1|apply Q4)|exact HB.out)⟩⟩
              rw [if_neg c32] at H
              exact absurd H (by simp)
             rw [if_neg c31] at H
             exact absurd H (by simp)
            rw [if_neg c30] at H
            exact absurd H (by simp)
           rw [if_neg c29] at H
           exact absurd H (by simp)
          as_aux_lemma =>
          rw [if_neg c28] at H;have c28b0:decide (YT<(l0.length:Int))=false:=decide_eq_false c28;clear c28;replace H:=Option.bind_eq_some_iff.mp H;obtain ⟨qhw,qqC,H⟩:=H;replace H:((JD.f Wu 100).bind fun qgj=>((Qt.f qhw qgj).bind fun qbb=>(if KM.length<8796093022208 then (Q9.l1 k4 l0 l1 QY YQ J8 (KM++[(⟨qbb.1,qbb.2⟩:S25)]) (wrap64 (ZY+1))) else (none))))=some r:=H;have A38:=Q0.mk qqC;clear qqC;replace H:=Option.bind_eq_some_iff.mp H;obtain ⟨qgj,qqD,H⟩:=H;replace H:((Qt.f qhw qgj).bind fun qbb=>(if KM.length<8796093022208 then (Q9.l1 k4 l0 l1 QY YQ J8 (KM++[(⟨qbb.1,qbb.2⟩:S25)]) (wrap64 (ZY+1))) else (none)))=some r:=H;have A39:=Q0.mk qqD;clear qqD;replace H:=Option.bind_eq_some_iff.mp H;obtain ⟨⟨qj0,qj1⟩,qqE,H⟩:=H;replace H:(if KM.length<8796093022208 then (Q9.l1 k4 l0 l1 QY YQ J8 (KM++[(⟨qj0,qj1⟩:S25)]) (wrap64 (ZY+1))) else (none))=some r:=H;have A40:=Q0.mk qqE;clear qqE
          by_cases c41:KM.length<8796093022208
          ·
           as_aux_lemma =>
           rw [if_pos c41] at H;have qrf:=Q0.mk c41;clear c41;obtain ⟨qtV,qfH⟩:∃ y_:List (S25),y_=(KM++[(⟨qj0,qj1⟩:S25)]):=⟨_,rfl⟩
           replace H:(Q9.l1 k4 l0 l1 QY YQ J8 qtV (wrap64 (ZY+1)))=some r:=by first|(rw [qfH];with_reducible exact H)|(have H2_:=(Option.bind_some _ _).symm.trans H;rw [qfH];with_reducible exact H2_)|(have H2_:=(Option.bind_some _ _).symm.trans H;with_reducible exact H2_)|with_reducible exact H|(rw [qfH];exact H)|exact H
           have qrl:=Q0.mk qfH;clear qfH;have H':=Q0.mk H;clear H
           go_wp2_with (first|((with_reducible refine Qz (f:=47) rfl ?_);refine Yo (some 107) rfl rfl Try.func47 (by kernel_rfl) rfl #[.int .i64 Wu,.int .i64 100] rfl (by (try simp only [List.map_toArray,List.map_cons,List.map_nil]);first|done|rfl|(simp only [List.length_drop,List.length_take];rfl)) ?_;(with_reducible refine (ZA.calls Wu 100 qhw _ A38.out).mono ?_);rintro e w' ⟨rfl,⟨nd,rfl⟩⟩;refine ⟨_,rfl,?_⟩)|((with_reducible refine Qz (f:=48) rfl ?_);refine Yo (some 109) rfl rfl Try.func48 (by kernel_rfl) rfl #[.int .i64 Wu,.int .i64 100] rfl (by (try simp only [List.map_toArray,List.map_cons,List.map_nil]);first|done|rfl|(simp only [List.length_drop,List.length_take];rfl)) ?_;(with_reducible refine (JD.calls Wu 100 qgj _ A39.out).mono ?_);rintro e w' ⟨rfl,⟨nd,rfl⟩⟩;refine ⟨_,rfl,?_⟩)|((with_reducible refine Qz (f:=43) rfl ?_);refine Yo (some 110) rfl rfl Try.func43 (by kernel_rfl) rfl #[.int .i64 qhw,.int .i64 qgj] rfl (by (try simp only [List.map_toArray,List.map_cons,List.map_nil]);first|done|rfl|(simp only [List.length_drop,List.length_take];rfl)) ?_;(with_reducible refine (Qt.calls qhw qgj qj0 qj1 _ A40.out).mono ?_);rintro e w42 ⟨rfl,hb⟩;refine ⟨_,rfl,?_⟩;have n0_:=Q0.mk (Kd.R_below (by (with_reducible repeat (first|apply Kd.R_alloc|apply Kd.R_drewN|apply Kd.R_drew));exact HO_5.out) hb);have n1_:=Q0.mk (Kd.V_below (by (with_reducible repeat (first|apply Kd.V_alloc|apply Kd.V_drewN|apply Kd.V_drew));exact HO_7.out) hb);have n2_:=Q0.mk (Kd.R_below (by (with_reducible repeat (first|apply Kd.R_alloc|apply Kd.R_drewN|apply Kd.R_drew));exact HO_9.out) hb);have n3_:=Q0.mk (Kd.R_below (by (with_reducible repeat (first|apply Kd.R_alloc|apply Kd.R_drewN|apply Kd.R_drew));exact HO_10.out) hb);have n4_:=Q0.mk (Qi (by repeat (first|(with_reducible first|exact HB.out|apply Q2|apply Q1|apply Q4)|exact HB.out)) hb);clear HO_5 HO_7 HO_9 HO_10 HB;have HO_5:=n0_;have HO_7:=n1_;have HO_9:=n2_;have HO_10:=n3_;have HB:=n4_;clear n0_ n1_ n2_ n3_ n4_;(try clear hb);(try clear hb2);(try clear hk);(try clear hi))|((with_reducible refine Of (b:=.append) (xs:=#[.tmp 105,.tmp 111]) rfl ?_);(try (refine Ga (by rfl) ?_;dsimp only));at_builtin;refine Kd.R_append k25 (w0:=w) w.heap.size rfl (.tmp 105) (.tmp 111) 32 25 (.agg #[(.int .i64 0),(.int .i64 0)]) 16 rfl Try.underlying32 qd9 rfl (by decide) (by omega) u10 KM (⟨qj0,qj1⟩:S25) [.int .i64 qj0,.int .i64 qj1] (fun k_=>some k_≠(.slice WZ QY.length X0:Value).ownBlock) (fun _=>False) rfl rfl ?aP (fun _ hk=>hk.elim) ?aF ?aO ?aB ?aS ?aL ?_;(case aP=>exact KI _ _ _ (⟨qj0,qj1⟩:S25));(case aB=>exact (by repeat (first|(with_reducible first|exact HB.out|apply Q2|apply Q1|apply Q4)|exact HB.out)));(case aF=>exact (fun k_ hk=>Kd.fresh' (Kd.R_lt (by (with_reducible repeat (first|apply Kd.R_alloc|apply Kd.R_drewN|apply Kd.R_drew));exact HO_5.out)) k_ hk));(case aO=>exact (by (with_reducible repeat (first|apply Kd.R_alloc|apply Kd.R_drewN|apply Kd.R_drew));exact HO_10.out));(case aS=>exact (Qe (by repeat (first|(with_reducible first|exact HB.out|apply Q2|apply Q1|apply Q4)|exact HB.out))));(case aL=>have:=qrf.out;omega);intro qFy w43 ho hb hg hat;rw [← qrl.out] at ho;have n0_:=Q0.mk (Kd.R_after (ok:=(fun _=>True)) (by (with_reducible repeat (first|apply Kd.R_alloc|apply Kd.R_drewN|apply Kd.R_drew));exact Kd.R_mono HO_5.out (fun _ hk=>⟨trivial,hk⟩)) hg hat);have n1_:=Q0.mk (Kd.V_afterv (ok:=(fun k_=>some k_≠(.slice WZ QY.length X0:Value).ownBlock∧some k_≠(Xv:Value).ownBlock)) (by (with_reducible repeat (first|apply Kd.V_alloc|apply Kd.V_drewN|apply Kd.V_drew));exact Kd.V_mono HO_7.out (fun _ hk=>⟨⟨hk.1,hk.2.1⟩,hk.2.2⟩)) hg hat);have n2_:=Q0.mk (Kd.R_over' (by (with_reducible repeat (first|apply Kd.R_alloc|apply Kd.R_drewN|apply Kd.R_drew));exact HO_9.out) (Kd.R_typed (by (with_reducible repeat (first|apply Kd.R_alloc|apply Kd.R_drewN|apply Kd.R_drew));exact HO_10.out)) (by decide) hg);have n3_:=Q0.mk (hb);have n4_:=Q0.mk (ho);clear HO_5 HO_7 HO_9 HB HO_10;have HO_5:=n0_;have HO_7:=n1_;have HO_9:=n2_;have HB:=n3_;have qrd:=n4_;clear n0_ n1_ n2_ n3_ n4_ ho hb hg hat))
           go_roundg k4
           case measure=>have:=HJ2.out;have:=Wh.out;have:=HK3.out;have:=HK4.out;omega
           case rel=>exact ⟨(qtV),(wrap64 (ZY+1)),(by first|rfl|(simp;done)|(simp [*];done)),H',⟨by have:=HJ2.out;have:=Wh.out;have:=HK3.out;have:=HK4.out;omega⟩,⟨by (with_reducible repeat (first|apply Kd.R_alloc|apply Kd.R_drewN|apply Kd.R_drew));exact Kd.R_mono HO_5.out (fun _ hk=>hk.2)⟩,⟨by (with_reducible repeat (first|apply Kd.V_alloc|apply Kd.V_drewN|apply Kd.V_drew));exact Kd.V_mono HO_7.out (fun _ hk=>⟨hk.1.1,⟨hk.1.2,hk.2⟩⟩)⟩,⟨by (with_reducible repeat (first|apply Kd.R_alloc|apply Kd.R_drewN|apply Kd.R_drew));exact HO_9.out⟩,⟨by (with_reducible repeat (first|apply Kd.R_alloc|apply Kd.R_drewN|apply Kd.R_drew));exact qrd.out⟩,⟨by repeat (first|(with_reducible first|exact HB.out|apply Q2|apply Q1|apply Q4)|exact HB.out)⟩⟩
          rw [if_neg c41] at H
          exact absurd H (by simp)
       as_aux_lemma =>
       rw [if_neg c27] at H;have c27b0:decide (ZY<(QY.length:Int))=false:=decide_eq_false c27;clear c27;replace H:=Option.bind_eq_some_iff.mp H;obtain ⟨⟨J4,qhx⟩,qqF,H⟩:=H;replace H:(if qhx=0 then (if (J4.length:Int)=(l0.length:Int) then (Q9.j5 k3 l0 YQ J8 J4 ((YQ.length:Int) != (l0.length:Int))) else (Q9.j5 k3 l0 YQ J8 J4 true)) else (Q9.j5 k3 l0 YQ J8 J4 true))=some r:=H;have A44:=Q0.mk qqF;clear qqF;have qps:=Q0.mk H;clear H;obtain ⟨qqU,qrP,qAG⟩:=Kd.R_slice HO_10.out;subst qAG
       go_upto_region 21 with (first|((with_reducible refine Qz (f:=22) rfl ?_);refine Yo (some 116) rfl rfl Try.func22 (by kernel_rfl) rfl #[.slice A0 l0.length c0,.slice qqU KM.length qrP] rfl (by (try simp only [List.map_toArray,List.map_cons,List.map_nil]);first|done|rfl|(simp only [List.length_drop,List.length_take];rfl)) ?_;(with_reducible refine (Qo.calls k3 _ _ l0 _ _ KM J4 qhx _ ?side1 ?side2 ?side3 ?side4 A44.out).mono ?_);(case side1=>repeat (first|exact (Kd.C_below HR0.out HB.out)|(with_reducible refine Kd.C_alloc ?_ _)|(with_reducible refine Kd.C_drewN ?_ _)|(with_reducible refine Kd.C_drew ?_)));(case side2=>exact HC0.out);(case side3=>repeat (first|exact (Kd.R_reads' HO_10.out).2.2|(with_reducible refine Kd.C_alloc ?_ _)|(with_reducible refine Kd.C_drewN ?_ _)|(with_reducible refine Kd.C_drew ?_)));(case side4=>exact (Kd.R_reads' HO_10.out).2.1);rintro e w47 ⟨qtR,rfl,ho0,hb⟩;refine ⟨_,rfl,?_⟩;have n0_:=Q0.mk (Kd.R_below (by (with_reducible repeat (first|apply Kd.R_alloc|apply Kd.R_drewN|apply Kd.R_drew));exact HO_5.out) hb);have n1_:=Q0.mk (Kd.V_below (by (with_reducible repeat (first|apply Kd.V_alloc|apply Kd.V_drewN|apply Kd.V_drew));exact HO_7.out) hb);have n2_:=Q0.mk (Kd.R_below (by (with_reducible repeat (first|apply Kd.R_alloc|apply Kd.R_drewN|apply Kd.R_drew));exact HO_9.out) hb);have n3_:=Q0.mk (Kd.R_below (by (with_reducible repeat (first|apply Kd.R_alloc|apply Kd.R_drewN|apply Kd.R_drew));exact HO_10.out) hb);have n4_:=Q0.mk (Kd.V_lower (Kd.V_mono (ok':=fun k_=>some k_≠(.slice WZ QY.length X0:Value).ownBlock∧some k_≠(Xv:Value).ownBlock∧some k_≠(.slice qqU KM.length qrP:Value).ownBlock) ho0 (fun k_ hk_=>⟨(Kd.fresh' (Kd.R_lt (by (with_reducible repeat (first|apply Kd.R_alloc|apply Kd.R_drewN|apply Kd.R_drew));exact HO_5.out)) k_ hk_),(Kd.fresh' (Kd.R_lt (by (with_reducible repeat (first|apply Kd.R_alloc|apply Kd.R_drewN|apply Kd.R_drew));exact HO_9.out)) k_ hk_),(Kd.fresh' (Kd.R_lt (by (with_reducible repeat (first|apply Kd.R_alloc|apply Kd.R_drewN|apply Kd.R_drew));exact HO_10.out)) k_ hk_)⟩)) (Qe (by repeat (first|(with_reducible first|exact HB.out|apply Q2|apply Q1|apply Q4)|exact HB.out))));have n5_:=Q0.mk (Qi (by repeat (first|(with_reducible first|exact HB.out|apply Q2|apply Q1|apply Q4)|exact HB.out)) hb);clear HO_5 HO_7 HO_9 HO_10 HB;have HO_5:=n0_;have HO_7:=n1_;have HO_9:=n2_;have HO_10:=n3_;have qeW:=n4_;have HB:=n5_;clear n0_ n1_ n2_ n3_ n4_ n5_;(try clear hb);(try clear hb2);(try clear hk);(try clear hi);(try clear ho0)))
       (try simp only [Act.put,List.setIfInBounds_toArray,List.set_cons_zero,List.set_cons_succ])
       go_cut [134] (fun qBq wc => ∃ (kq:Nat) (qb9:Bool),qBq = .bool qb9∧Q0 (Q9.j5 kq l0 YQ J8 J4 qb9=some r)∧Q0 (kq≤k3)∧Q0 (Kd.V k25 25 wc w.heap.size (fun k_=>some k_≠(Xv:Value).ownBlock) qj6 YQ)∧Q0 (Kd.R (Kd.int .i64) 3 wc w.heap.size (fun _=>True) Xv J8)∧Q0 (Kd.V k25 25 wc w.heap.size (fun k_=>some k_≠(Xv:Value).ownBlock) qtR J4)∧Q0 (Below w.heap.size w wc))
       case first =>
        have H:=qps.out;clear qps
        by_cases c48:qhx=0
        ·
         as_aux_lemma =>
         rw [if_pos c48] at H;have c48b0:(qhx==0)=true:=beq_iff_eq.mpr c48;have c48b1:(qhx != 0)=false:=bne_eq_false_iff_eq.mpr c48;clear c48
         (first|rw [c48b0]|(simp only [Qp,Qq];rw [c48b0])|skip)
         by_cases c49:(J4.length:Int)=(l0.length:Int)
         ·
          as_aux_lemma =>
          rw [if_pos c49] at H;have c49b0:((J4.length:Int)==(l0.length:Int))=true:=beq_iff_eq.mpr c49;have c49b1:((J4.length:Int) != (l0.length:Int))=false:=bne_eq_false_iff_eq.mpr c49
          have c49b2:(J4.length==l0.length)=true:=by first|simpa using c49|(simp at c49 ⊢;omega)
          clear c49;have H':=Q0.mk H;clear H;obtain ⟨qDK,qDX,qAH⟩:=Kd.V_slice qeW.out;subst qAH;obtain ⟨qDL,qDY,qAI⟩:=Kd.V_slice HO_7.out;subst qAI
          go_wp2
          go_meet
          case rel=>exact ⟨_,(((YQ.length:Int) != (l0.length:Int))),(by first|rfl|(simp;done)|(simp [*];done)),H',⟨by have:=HJ2.out;have:=Wh.out;have:=HK3.out;first|omega|exact Nat.le_refl _⟩,⟨by (with_reducible repeat (first|apply Kd.V_alloc|apply Kd.V_drewN|apply Kd.V_drew));exact Kd.V_mono HO_7.out (fun _ hk=>hk.2.1)⟩,⟨by (with_reducible repeat (first|apply Kd.R_alloc|apply Kd.R_drewN|apply Kd.R_drew));exact HO_9.out⟩,⟨by (with_reducible repeat (first|apply Kd.V_alloc|apply Kd.V_drewN|apply Kd.V_drew));exact Kd.V_mono qeW.out (fun _ hk=>hk.2.1)⟩,⟨by repeat (first|(with_reducible first|exact HB.out|apply Q2|apply Q1|apply Q4)|exact HB.out)⟩⟩
         rw [if_neg c49] at H;have c49b0:((J4.length:Int)==(l0.length:Int))=false:=beq_eq_false_iff_ne.mpr c49;have c49b1:((J4.length:Int) != (l0.length:Int))=true:=bne_iff_ne.mpr c49
         have c49b2:(J4.length==l0.length)=false:=by first|simpa using c49|(simp at c49 ⊢;omega)
         have H':=Q0.mk H;clear H;obtain ⟨qDM,qDZ,qAJ⟩:=Kd.V_slice qeW.out;subst qAJ
         go_wp2
         go_meet
         case rel=>exact ⟨_,(true),(by first|rfl|(simp;done)|(simp [*];done)),H',⟨by have:=HJ2.out;have:=Wh.out;have:=HK3.out;first|omega|exact Nat.le_refl _⟩,⟨by (with_reducible repeat (first|apply Kd.V_alloc|apply Kd.V_drewN|apply Kd.V_drew));exact Kd.V_mono HO_7.out (fun _ hk=>hk.2.1)⟩,⟨by (with_reducible repeat (first|apply Kd.R_alloc|apply Kd.R_drewN|apply Kd.R_drew));exact HO_9.out⟩,⟨by (with_reducible repeat (first|apply Kd.V_alloc|apply Kd.V_drewN|apply Kd.V_drew));exact Kd.V_mono qeW.out (fun _ hk=>hk.2.1)⟩,⟨by repeat (first|(with_reducible first|exact HB.out|apply Q2|apply Q1|apply Q4)|exact HB.out)⟩⟩
        rw [if_neg c48] at H;have c48b0:(qhx==0)=false:=beq_eq_false_iff_ne.mpr c48;have c48b1:(qhx != 0)=true:=bne_iff_ne.mpr c48
        (first|rw [c48b0]|(simp only [Qp,Qq];rw [c48b0])|skip)
        have H':=Q0.mk H;clear H
        go_wp2
        go_meet
        case rel=>exact ⟨_,(true),(by first|rfl|(simp;done)|(simp [*];done)),H',⟨by have:=HJ2.out;have:=Wh.out;have:=HK3.out;first|omega|exact Nat.le_refl _⟩,⟨by (with_reducible repeat (first|apply Kd.V_alloc|apply Kd.V_drewN|apply Kd.V_drew));exact Kd.V_mono HO_7.out (fun _ hk=>hk.2.1)⟩,⟨by (with_reducible repeat (first|apply Kd.R_alloc|apply Kd.R_drewN|apply Kd.R_drew));exact HO_9.out⟩,⟨by (with_reducible repeat (first|apply Kd.V_alloc|apply Kd.V_drewN|apply Kd.V_drew));exact Kd.V_mono qeW.out (fun _ hk=>hk.2.1)⟩,⟨by repeat (first|(with_reducible first|exact HB.out|apply Q2|apply Q1|apply Q4)|exact HB.out)⟩⟩
       case rest =>
        clear qps;(try clear c1);(try clear c2);(try clear p2);(try clear c3);(try clear c4);(try clear c4b0);(try clear c4b1);(try clear c5);(try clear c5b0);(try clear c5b1);(try clear c6);(try clear c6b0);(try clear p6);(try clear c7);(try clear p7);(try clear q7);(try clear hx7);(try clear qi7);(try clear c8);(try clear c10);(try clear c15);(try clear c15b0);(try clear c15b1);(try clear c18);(try clear c19);(try clear c19b0);(try clear c19b1);(try clear c20);(try clear c20b0);(try clear c20b1);(try clear c20b2);(try clear c22);(try clear c27);(try clear c27b0);(try clear c28);(try clear c28b0);(try clear c29);(try clear c29b0);(try clear c30);(try clear c30b0);(try clear c31);(try clear c31b0);(try clear c32);(try clear c32b0);(try clear c39);(try clear c41);(try clear c42);(try clear c43);(try clear c47);(try clear c48);(try clear c48b0);(try clear c48b1);(try clear c49);(try clear c49b0);(try clear c49b1);(try clear c49b2);(try clear JN);(try clear qat);(try clear Ou);(try clear Uj);(try clear Uk);(try clear Ov);(try clear Ul);(try clear Um);(try clear p2);(try clear p6);(try clear p7);(try clear qaC);(try clear qjs);(try clear qjt);(try clear qju);(try clear qjv);(try clear qjw);(try clear q7);(try clear qaE);(try clear qjx);(try clear qjy);(try clear qjz);(try clear qjA);(try clear qjB);obtain ⟨kq,qb9,rfl,HA,qcO,HO_7,HO_9,HO_14,HB⟩:=hcut
        cases kq with
        | zero=>exact absurd HA.out (by simp [Q9.j5])
        | succ qp5 =>
         have H:=HA.out;clear HA;simp only [Q9.j5] at H
         by_cases c53:qb9=true
         ·
          subst c53
          have H1:(some false)=some r:=by rw [if_pos rfl] at H;exact H
          clear H;have H:=H1;clear H1;obtain rfl:=Option.some.inj H
          go_wp2
          go_ret
          exact ⟨by first|rfl|(simp [Qv,Qw]<;>rfl)|(simp [*,Qv,Qw]<;>rfl),by repeat (first|(with_reducible first|exact HB.out|apply Q2|apply Q1|apply Q4)|exact HB.out)⟩
         as_aux_lemma =>
         replace c53:=Bool.eq_false_iff.mpr c53;subst c53
         have H1:(Q9.l3 qp5 l0 YQ J8 J4 0)=some r:=by rw [if_neg (show ¬ (false=true) by decide)] at H;exact H
         clear H;have H:=H1;clear H1;have H':=Q0.mk H;clear H
         go_wp2
         go_loopg [15] qp5 (fun kq v15 w' => ∃ (QF:Int),v15 = .int .i64 QF∧Q0 (Q9.l3 kq l0 YQ J8 J4 QF=some r)∧Q0 (kq≤qp5)∧Q0 (Kd.V k25 25 w' w.heap.size (fun k_=>some k_≠(Xv:Value).ownBlock) qj6 YQ)∧Q0 (Kd.R (Kd.int .i64) 3 w' w.heap.size (fun _=>True) Xv J8)∧Q0 (Kd.V k25 25 w' w.heap.size (fun k_=>some k_≠(Xv:Value).ownBlock) qtR J4)∧Q0 (Below w.heap.size w w'))
         case atStart=>exact ⟨(0),(by first|rfl|(simp;done)|(simp [*];done)),H',⟨Nat.le_refl _⟩,⟨by (with_reducible repeat (first|apply Kd.V_alloc|apply Kd.V_drewN|apply Kd.V_drew));exact HO_7.out⟩,⟨by (with_reducible repeat (first|apply Kd.R_alloc|apply Kd.R_drewN|apply Kd.R_drew));exact HO_9.out⟩,⟨by (with_reducible repeat (first|apply Kd.V_alloc|apply Kd.V_drewN|apply Kd.V_drew));exact HO_14.out⟩,⟨by repeat (first|(with_reducible first|exact HB.out|apply Q2|apply Q1|apply Q4)|exact HB.out)⟩⟩
         case round =>
          clear H';(try clear c1);(try clear c2);(try clear p2);(try clear c3);(try clear c4);(try clear c4b0);(try clear c4b1);(try clear c5);(try clear c5b0);(try clear c5b1);(try clear c6);(try clear c6b0);(try clear p6);(try clear c7);(try clear p7);(try clear q7);(try clear hx7);(try clear qi7);(try clear c8);(try clear c10);(try clear c15);(try clear c15b0);(try clear c15b1);(try clear c18);(try clear c19);(try clear c19b0);(try clear c19b1);(try clear c20);(try clear c20b0);(try clear c20b1);(try clear c20b2);(try clear c22);(try clear c27);(try clear c27b0);(try clear c28);(try clear c28b0);(try clear c29);(try clear c29b0);(try clear c30);(try clear c30b0);(try clear c31);(try clear c31b0);(try clear c32);(try clear c32b0);(try clear c39);(try clear c41);(try clear c42);(try clear c43);(try clear c47);(try clear c48);(try clear c48b0);(try clear c48b1);(try clear c49);(try clear c49b0);(try clear c49b1);(try clear c49b2);(try clear c53);(try clear JN);(try clear qat);(try clear Ou);(try clear Uj);(try clear Uk);(try clear Ov);(try clear Ul);(try clear Um);(try clear p2);(try clear p6);(try clear p7);(try clear qaC);(try clear qjs);(try clear qjt);(try clear qju);(try clear qjv);(try clear qjw);(try clear q7);(try clear qaE);(try clear qjx);(try clear qjy);(try clear qjz);(try clear qjA);(try clear qjB);obtain ⟨QF,rfl,HA,HK5,HO_7,HO_9,HO_14,HB⟩:=hrel
          cases gk with
          | zero=>exact absurd HA.out (by simp [Q9.l3])
          | succ k5 =>
           have H:=HA.out;clear HA;simp only [Q9.l3] at H
           by_cases c54:QF<(J4.length:Int)
           ·
            as_aux_lemma =>
            rw [if_pos c54] at H;have c54b0:decide (QF<(J4.length:Int))=true:=decide_eq_true c54;clear c54;have qpt:=Q0.mk H;clear H;obtain ⟨qzV,qAb,qAK⟩:=Kd.V_slice HO_14.out;subst qAK
            go_upto_region 26 with (fail)
            go_cut [158] (fun qBr wc => ∃ (kq:Nat) (qca:Bool),qBr = .bool qca∧Q0 (Q9.j7 kq l0 YQ J8 J4 QF qca=some r)∧Q0 (kq≤k5)∧Q0 (Kd.V k25 25 wc w.heap.size (fun k_=>some k_≠(Xv:Value).ownBlock) qj6 YQ)∧Q0 (Kd.R (Kd.int .i64) 3 wc w.heap.size (fun _=>True) Xv J8)∧Q0 (Kd.V k25 25 wc w.heap.size (fun k_=>some k_≠(Xv:Value).ownBlock) (.slice qzV J4.length qAb) J4)∧Q0 (Below w.heap.size w wc))
            case first =>
             have H:=qpt.out;clear qpt
             by_cases c57:0≤QF
             ·
              as_aux_lemma =>
              rw [if_pos c57] at H;have c57b0:decide (0≤QF)=true:=decide_eq_true c57;clear c57
              (first|rw [c57b0]|(simp only [Qp,Qq];rw [c57b0])|skip)
              by_cases c58:QF<(J8.length:Int)
              ·
               as_aux_lemma =>
               rw [if_pos c58] at H;have c58b0:decide (QF<(J8.length:Int))=true:=decide_eq_true c58;clear c58;replace H:=Option.bind_eq_some_iff.mp H;obtain ⟨qod,qqH,H⟩:=H;replace H:(if qod=true then ((YV.f ((Qs J4 QF).f0) ((Qs J4 QF).f1) 0 100).bind fun qoe=>(Q9.j7 k5 l0 YQ J8 J4 QF (!qoe))) else (Q9.j7 k5 l0 YQ J8 J4 QF true))=some r:=H;have A59:=Q0.mk qqH;clear qqH
               by_cases c60:qod=true
               ·
                as_aux_lemma =>
                subst c60
                have H1:((YV.f ((Qs J4 QF).f0) ((Qs J4 QF).f1) 0 100).bind fun qoe=>(Q9.j7 k5 l0 YQ J8 J4 QF (!qoe)))=some r:=by rw [if_pos rfl] at H;exact H
                clear H;have H:=H1;clear H1;replace H:=Option.bind_eq_some_iff.mp H;obtain ⟨qoe,qqI,H⟩:=H;replace H:(Q9.j7 k5 l0 YQ J8 J4 QF (!qoe))=some r:=H;have A61:=Q0.mk qqI;clear qqI;have H':=Q0.mk H;clear H
                try go_wp2
                have n0_:=Q0.mk (Kd.V_drew HO_7.out);have n1_:=Q0.mk (Kd.R_drew HO_9.out);have n2_:=Q0.mk (Kd.V_drew HO_14.out);have n3_:=Q0.mk (Q4 HB.out);clear HO_7 HO_9 HO_14 HB;have HO_7:=n0_;have HO_9:=n1_;have HO_14:=n2_;have HB:=n3_;clear n0_ n1_ n2_ n3_;have qfP:0≤(QF:Int):=of_decide_eq_true (by first|(with_reducible assumption)|assumption);have qfT:QF<(J4.length:Int):=of_decide_eq_true (by first|(with_reducible assumption)|assumption);obtain ⟨Wj,qpJ,WS,WT⟩:=JM (Kd.V_reads' HO_14.out).2.2 QF qfP qfT;cases qpJ;replace qfP:=eq_true qfP;replace qfT:=eq_true qfT;obtain ⟨qDN,qD0,qrR⟩:=Kd.R_slice HO_9.out
                (first|subst qrR|(injection qrR with f1_ f2_ f3_;have f4_:=f1_.symm;have f5_:=f3_.symm;clear f1_ f2_ f3_;subst f4_;subst f5_))
                have qfQ:0≤(QF:Int):=of_decide_eq_true (by first|(with_reducible assumption)|assumption);have qfU:QF<(J8.length:Int):=of_decide_eq_true (by first|(with_reducible assumption)|assumption);obtain ⟨qkH,qpK,WU⟩:=Kd.at_int (Kd.R_reads' HO_9.out).2.2 QF qfQ qfU;cases qpK;replace qfQ:=eq_true qfQ;replace qfU:=eq_true qfU;have qnZ:0≤(QF:Int):=of_decide_eq_true (by first|(with_reducible assumption)|assumption);have qn8:QF<(J4.length:Int):=of_decide_eq_true (by first|(with_reducible assumption)|assumption);obtain ⟨qrE,qAt,qd7,qd8⟩:=JM (Kd.V_reads' HO_14.out).2.2 QF qnZ qn8;obtain rfl:Wj=qrE:=(by injection qAt);replace qnZ:=eq_true qnZ;replace qn8:=eq_true qn8;refine Kr (n:=18) (S:=fun w'=>w'.cell? (Wj.add ((QF).toNat*2))=some (.int .i64 ((Qs J4 QF).f0))∧w'.cell? ⟨(Wj.add ((QF).toNat*2)).block,(Wj.add ((QF).toNat*2)).off+1,none⟩=some (.int .i64 ((Qs J4 QF).f1))∧w'.cell? (qkH.add (QF).toNat)=some (.int .i64 (rd J8 QF))∧w'.cell? (Wj.add ((QF).toNat*2))=some (.int .i64 ((Qs J4 QF).f0))∧w'.cell? ⟨(Wj.add ((QF).toNat*2)).block,(Wj.add ((QF).toNat*2)).off+1,none⟩=some (.int .i64 ((Qs J4 QF).f1))) (ds:=[]) #[false,false,false,false,false,false,false,false,false,false,false,false,false,false,false,false,false,false] (by kernel_rfl) rfl rfl ⟨WS,WT,WU,qd7,qd8⟩ (fun hHeld => ?_);refine JC Q9.tab26 Q9.bits26 (fun HT_ HW_ => ?_)
                generalize wr.drew=w62 at HO_7 HO_9 HO_14 HB WS WT WU qd7 qd8 hHeld ⊢
                refine Qx (i:=0) (N:=some 141) (v:=?_) (a':=?_) #[true,false,false,false,false,false,false,false,false,false,false,false,false,false,false,false,false,false] rfl rfl (Qr HT_.out (by kernel_rfl)) (fun _ _ _ h=>h) (Or.inl ⟨by rfl,?_⟩) ?_ ?_
                rotate_left
                ·
                 intro w'
                 go_simp
                 with_reducible rfl
                rotate_left
                ·
                 simp only [Act.put,List.setIfInBounds_toArray,List.set_cons_zero,List.set_cons_succ,Qp,Qq]
                 rfl
                refine Qx (i:=1) (N:=some 142) (v:=?_) (a':=?_) #[true,true,false,false,false,false,false,false,false,false,false,false,false,false,false,false,false,false] rfl rfl (Qr HT_.out (by kernel_rfl)) (fun _ _ _ h=>h) (Or.inl ⟨by rfl,?_⟩) ?_ ?_
                rotate_left
                ·
                 intro w'
                 go_simp
                 with_reducible rfl
                rotate_left
                ·
                 simp only [Act.put,List.setIfInBounds_toArray,List.set_cons_zero,List.set_cons_succ,Qp,Qq]
                 rfl
                refine Qx (i:=2) (N:=some 143) (v:=?_) (a':=?_) #[true,true,true,false,false,false,false,false,false,false,false,false,false,false,false,false,false,false] rfl rfl (Qr HT_.out (by kernel_rfl)) (fun _ _ _ h=>h) (Or.inl ⟨by rfl,?_⟩) ?_ ?_
                rotate_left
                ·
                 intro w'
                 go_simp
                 with_reducible rfl
                rotate_left
                ·
                 simp only [Act.put,List.setIfInBounds_toArray,List.set_cons_zero,List.set_cons_succ,Qp,Qq]
                 rfl
                refine Qx (i:=4) (N:=some 145) (v:=?_) (a':=?_) #[true,true,true,false,true,false,false,false,false,false,false,false,false,false,false,false,false,false] rfl rfl (Qr HT_.out (by kernel_rfl)) (fun _ _ _ h=>h) (Or.inl ⟨by rfl,?_⟩) ?_ ?_
                rotate_left
                ·
                 intro w'
                 go_simp
                 with_reducible rfl
                rotate_left
                ·
                 simp only [Act.put,List.setIfInBounds_toArray,List.set_cons_zero,List.set_cons_succ,Qp,Qq]
                 rfl
                refine Qx (i:=5) (N:=some 146) (v:=?_) (a':=?_) #[true,true,true,false,true,true,false,false,false,false,false,false,false,false,false,false,false,false] rfl rfl (Qr HT_.out (by kernel_rfl)) (fun _ _ _ h=>h) (Or.inl ⟨by rfl,?_⟩) ?_ ?_
                rotate_left
                ·
                 intro w'
                 go_simp
                 with_reducible rfl
                rotate_left
                ·
                 simp only [Act.put,List.setIfInBounds_toArray,List.set_cons_zero,List.set_cons_succ,Qp,Qq]
                 rfl
                refine Qx (i:=6) (N:=some 147) (v:=?_) (a':=?_) #[true,true,true,false,true,true,true,false,false,false,false,false,false,false,false,false,false,false] rfl rfl (Qr HT_.out (by kernel_rfl)) (fun _ _ _ h=>h) (Or.inl ⟨by rfl,?_⟩) ?_ ?_
                rotate_left
                ·
                 intro w'
                 go_simp
                 with_reducible rfl
                rotate_left
                ·
                 simp only [Act.put,List.setIfInBounds_toArray,List.set_cons_zero,List.set_cons_succ,Qp,Qq]
                 rfl
                refine JG (i:=3) (N:=some 144) (v:=?_) (a':=?_) #[true,true,true,true,true,true,true,false,false,false,false,false,false,false,false,false,false,false] rfl rfl (Z8 HT_.out HW_.out (by kernel_rfl)) (fun _ _ _ h=>h) (Or.inl ⟨by rfl,?_⟩) hHeld ?_ ?_
                rotate_left
                ·
                 rintro w' ⟨s0,s1,s2,s3,s4⟩
                 go_simp
                 with_reducible rfl
                rotate_left
                ·
                 simp only [Act.put,List.setIfInBounds_toArray,List.set_cons_zero,List.set_cons_succ,Qp,Qq]
                 rfl
                refine JG (i:=7) (N:=some 148) (v:=?_) (a':=?_) #[true,true,true,true,true,true,true,true,false,false,false,false,false,false,false,false,false,false] rfl rfl (Z8 HT_.out HW_.out (by kernel_rfl)) (fun _ _ _ h=>h) (Or.inl ⟨by rfl,?_⟩) hHeld ?_ ?_
                rotate_left
                ·
                 rintro w' ⟨s0,s1,s2,s3,s4⟩
                 go_simp
                 with_reducible rfl
                rotate_left
                ·
                 simp only [Act.put,List.setIfInBounds_toArray,List.set_cons_zero,List.set_cons_succ,Qp,Qq]
                 rfl
                refine one_ (i:=8) (N:=some 149) #[true,true,true,true,true,true,true,true,true,false,false,false,false,false,false,false,false,false] rfl rfl (JE HT_.out (by kernel_rfl)) (by decide) (fun K hK => ?_);refine Kv Try.func44 (by kernel_rfl) rfl #[.agg #[.int .i64 ((Qs J4 QF).f0),.int .i64 ((Qs J4 QF).f1)],.int .i64 (rd J8 QF)] (by rfl) rfl rfl (by (try simp only [List.map_toArray,List.map_cons,List.map_nil]);first|done|rfl|(simp only [List.length_drop,List.length_take];rfl)) ?_
                with_reducible refine (Jg.calls ((Qs J4 QF).f0) ((Qs J4 QF).f1) (rd J8 QF) true _ A59.out).mono ?_
                rintro e w64 ⟨rfl,hb⟩;have HS0_:=(hb.cell (World.block_lt_of_cell? _ _ (hHeld.1))).trans (hHeld.1);have HS1_:=(hb.cell (World.block_lt_of_cell? _ _ (hHeld.2.1))).trans (hHeld.2.1);have HS2_:=(hb.cell (World.block_lt_of_cell? _ _ (hHeld.2.2.1))).trans (hHeld.2.2.1);have HS3_:=(hb.cell (World.block_lt_of_cell? _ _ (hHeld.2.2.2.1))).trans (hHeld.2.2.2.1);have HS4_:=(hb.cell (World.block_lt_of_cell? _ _ (hHeld.2.2.2.2))).trans (hHeld.2.2.2.2);refine ⟨_,rfl,?_⟩;have n0_:=Q0.mk (Kd.V_below (by (with_reducible repeat (first|apply Kd.V_alloc|apply Kd.V_drewN|apply Kd.V_drew));exact HO_7.out) hb);have n1_:=Q0.mk (Kd.R_below (by (with_reducible repeat (first|apply Kd.R_alloc|apply Kd.R_drewN|apply Kd.R_drew));exact HO_9.out) hb);have n2_:=Q0.mk (Kd.V_below (by (with_reducible repeat (first|apply Kd.V_alloc|apply Kd.V_drewN|apply Kd.V_drew));exact HO_14.out) hb);have n3_:=Q0.mk (Qi (by repeat (first|(with_reducible first|exact HB.out|apply Q2|apply Q1|apply Q4)|exact HB.out)) hb);clear HO_7 HO_9 HO_14 HB;have HO_7:=n0_;have HO_9:=n1_;have HO_14:=n2_;have HB:=n3_;clear n0_ n1_ n2_ n3_
                (try clear hb)
                (try clear hb2)
                (try clear hk)
                (try clear hi)
                refine hK.out _ _ ⟨HS0_,HS1_,HS2_,HS3_,HS4_⟩ (fun hHeld => ?_);clear hK K;refine Jr (a':=?_) ?_ ?_
                rotate_left
                ·
                 show Act.put _ (some 149) _=_
                 simp only [Act.put,List.setIfInBounds_toArray,List.set_cons_zero,List.set_cons_succ,Qp,Qq]
                 rfl
                refine Qx (i:=9) (N:=some 150) (v:=?_) (a':=?_) #[true,true,true,true,true,true,true,true,true,true,false,false,false,false,false,false,false,false] rfl rfl (Qr HT_.out (by kernel_rfl)) (fun _ _ _ h=>h) (Or.inl ⟨by rfl,?_⟩) ?_ ?_
                rotate_left
                ·
                 intro w'
                 go_simp
                 with_reducible rfl
                rotate_left
                ·
                 simp only [Act.put,List.setIfInBounds_toArray,List.set_cons_zero,List.set_cons_succ,Qp,Qq]
                 rfl
                refine Qx (i:=10) (N:=some 151) (v:=?_) (a':=?_) #[true,true,true,true,true,true,true,true,true,true,true,false,false,false,false,false,false,false] rfl rfl (Qr HT_.out (by kernel_rfl)) (fun _ _ _ h=>h) (Or.inl ⟨by rfl,?_⟩) ?_ ?_
                rotate_left
                ·
                 intro w'
                 go_simp
                 with_reducible rfl
                rotate_left
                ·
                 simp only [Act.put,List.setIfInBounds_toArray,List.set_cons_zero,List.set_cons_succ,Qp,Qq]
                 rfl
                refine Qx (i:=11) (N:=some 152) (v:=?_) (a':=?_) #[true,true,true,true,true,true,true,true,true,true,true,true,false,false,false,false,false,false] rfl rfl (Qr HT_.out (by kernel_rfl)) (fun _ _ _ h=>h) (Or.inl ⟨by rfl,?_⟩) ?_ ?_
                rotate_left
                ·
                 intro w'
                 go_simp
                 with_reducible rfl
                rotate_left
                ·
                 simp only [Act.put,List.setIfInBounds_toArray,List.set_cons_zero,List.set_cons_succ,Qp,Qq]
                 rfl
                refine Qx (i:=12) (N:=some 153) (v:=?_) (a':=?_) #[true,true,true,true,true,true,true,true,true,true,true,true,true,false,false,false,false,false] rfl rfl (Qr HT_.out (by kernel_rfl)) (fun _ _ _ h=>h) (Or.inl ⟨by rfl,?_⟩) ?_ ?_
                rotate_left
                ·
                 intro w'
                 go_simp
                 with_reducible rfl
                rotate_left
                ·
                 simp only [Act.put,List.setIfInBounds_toArray,List.set_cons_zero,List.set_cons_succ,Qp,Qq]
                 rfl
                refine Qx (i:=13) (N:=some 154) (v:=?_) (a':=?_) #[true,true,true,true,true,true,true,true,true,true,true,true,true,true,false,false,false,false] rfl rfl (Qr HT_.out (by kernel_rfl)) (fun _ _ _ h=>h) (Or.inl ⟨by rfl,?_⟩) ?_ ?_
                rotate_left
                ·
                 intro w'
                 go_simp
                 with_reducible rfl
                rotate_left
                ·
                 simp only [Act.put,List.setIfInBounds_toArray,List.set_cons_zero,List.set_cons_succ,Qp,Qq]
                 rfl
                refine JG (i:=14) (N:=some 155) (v:=?_) (a':=?_) #[true,true,true,true,true,true,true,true,true,true,true,true,true,true,true,false,false,false] rfl rfl (Z8 HT_.out HW_.out (by kernel_rfl)) (fun _ _ _ h=>h) (Or.inl ⟨by rfl,?_⟩) hHeld ?_ ?_
                rotate_left
                ·
                 rintro w' ⟨s0,s1,s2,s3,s4⟩
                 go_simp
                 with_reducible rfl
                rotate_left
                ·
                 simp only [Act.put,List.setIfInBounds_toArray,List.set_cons_zero,List.set_cons_succ,Qp,Qq]
                 rfl
                refine one_ (i:=15) (N:=some 156) #[true,true,true,true,true,true,true,true,true,true,true,true,true,true,true,true,false,false] rfl rfl (JE HT_.out (by kernel_rfl)) (by decide) (fun K hK => ?_);refine Kv Try.func49 (by kernel_rfl) rfl #[.agg #[.int .i64 ((Qs J4 QF).f0),.int .i64 ((Qs J4 QF).f1)],.int .i64 0,.int .i64 100] (by rfl) rfl rfl (by (try simp only [List.map_toArray,List.map_cons,List.map_nil]);first|done|rfl|(simp only [List.length_drop,List.length_take];rfl)) ?_
                with_reducible refine (YV.calls ((Qs J4 QF).f0) ((Qs J4 QF).f1) 0 100 qoe _ A61.out).mono ?_
                rintro e w65 ⟨rfl,hb⟩;have HS0_:=(hb.cell (World.block_lt_of_cell? _ _ (hHeld.1))).trans (hHeld.1);have HS1_:=(hb.cell (World.block_lt_of_cell? _ _ (hHeld.2.1))).trans (hHeld.2.1);have HS2_:=(hb.cell (World.block_lt_of_cell? _ _ (hHeld.2.2.1))).trans (hHeld.2.2.1);have HS3_:=(hb.cell (World.block_lt_of_cell? _ _ (hHeld.2.2.2.1))).trans (hHeld.2.2.2.1);have HS4_:=(hb.cell (World.block_lt_of_cell? _ _ (hHeld.2.2.2.2))).trans (hHeld.2.2.2.2);refine ⟨_,rfl,?_⟩;have n0_:=Q0.mk (Kd.V_below (by (with_reducible repeat (first|apply Kd.V_alloc|apply Kd.V_drewN|apply Kd.V_drew));exact HO_7.out) hb);have n1_:=Q0.mk (Kd.R_below (by (with_reducible repeat (first|apply Kd.R_alloc|apply Kd.R_drewN|apply Kd.R_drew));exact HO_9.out) hb);have n2_:=Q0.mk (Kd.V_below (by (with_reducible repeat (first|apply Kd.V_alloc|apply Kd.V_drewN|apply Kd.V_drew));exact HO_14.out) hb);have n3_:=Q0.mk (Qi (by repeat (first|(with_reducible first|exact HB.out|apply Q2|apply Q1|apply Q4)|exact HB.out)) hb);clear HO_7 HO_9 HO_14 HB;have HO_7:=n0_;have HO_9:=n1_;have HO_14:=n2_;have HB:=n3_;clear n0_ n1_ n2_ n3_
                (try clear hb)
                (try clear hb2)
                (try clear hk)
                (try clear hi)
                refine hK.out _ _ ⟨HS0_,HS1_,HS2_,HS3_,HS4_⟩ (fun hHeld => ?_);clear hK K;refine Jr (a':=?_) ?_ ?_
                rotate_left
                ·
                 show Act.put _ (some 156) _=_
                 simp only [Act.put,List.setIfInBounds_toArray,List.set_cons_zero,List.set_cons_succ,Qp,Qq]
                 rfl
                refine Qx (i:=16) (N:=some 157) (v:=?_) (a':=?_) #[true,true,true,true,true,true,true,true,true,true,true,true,true,true,true,true,true,false] rfl rfl (Qr HT_.out (by kernel_rfl)) (fun _ _ _ h=>h) (Or.inl ⟨by rfl,?_⟩) ?_ ?_
                rotate_left
                ·
                 intro w'
                 go_simp
                 with_reducible rfl
                rotate_left
                ·
                 simp only [Act.put,List.setIfInBounds_toArray,List.set_cons_zero,List.set_cons_succ,Qp,Qq]
                 rfl
                refine Qx (i:=17) (N:=some 158) (v:=?_) (a':=?_) #[true,true,true,true,true,true,true,true,true,true,true,true,true,true,true,true,true,true] rfl rfl (Qr HT_.out (by kernel_rfl)) (fun _ _ _ h=>h) (Or.inl ⟨by rfl,?_⟩) ?_ ?_
                rotate_left
                ·
                 intro w'
                 go_simp
                 with_reducible rfl
                rotate_left
                ·
                 simp only [Act.put,List.setIfInBounds_toArray,List.set_cons_zero,List.set_cons_succ,Qp,Qq]
                 rfl
                refine OC (Gi HT_.out (by kernel_rfl)) ?_
                try go_wp2
                go_meet
                case rel=>exact ⟨_,(!qoe),(by first|rfl|(simp;done)|(simp [*];done)),H',⟨by have:=HJ2.out;have:=Wh.out;have:=HK3.out;have:=qcO.out;have:=HK5.out;first|omega|exact Nat.le_refl _⟩,⟨by (with_reducible repeat (first|apply Kd.V_alloc|apply Kd.V_drewN|apply Kd.V_drew));exact HO_7.out⟩,⟨by (with_reducible repeat (first|apply Kd.R_alloc|apply Kd.R_drewN|apply Kd.R_drew));exact HO_9.out⟩,⟨by (with_reducible repeat (first|apply Kd.V_alloc|apply Kd.V_drewN|apply Kd.V_drew));exact HO_14.out⟩,⟨by repeat (first|(with_reducible first|exact HB.out|apply Q2|apply Q1|apply Q4)|exact HB.out)⟩⟩
               as_aux_lemma =>
               replace c60:=Bool.eq_false_iff.mpr c60;subst c60
               have H1:(Q9.j7 k5 l0 YQ J8 J4 QF true)=some r:=by rw [if_neg (show ¬ (false=true) by decide)] at H;exact H
               clear H;have H:=H1;clear H1;have H':=Q0.mk H;clear H
               try go_wp2
               have n0_:=Q0.mk (Kd.V_drew HO_7.out);have n1_:=Q0.mk (Kd.R_drew HO_9.out);have n2_:=Q0.mk (Kd.V_drew HO_14.out);have n3_:=Q0.mk (Q4 HB.out);clear HO_7 HO_9 HO_14 HB;have HO_7:=n0_;have HO_9:=n1_;have HO_14:=n2_;have HB:=n3_;clear n0_ n1_ n2_ n3_;have qfP:0≤(QF:Int):=of_decide_eq_true (by first|(with_reducible assumption)|assumption);have qfT:QF<(J4.length:Int):=of_decide_eq_true (by first|(with_reducible assumption)|assumption);obtain ⟨Wj,qpJ,WS,WT⟩:=JM (Kd.V_reads' HO_14.out).2.2 QF qfP qfT;cases qpJ;replace qfP:=eq_true qfP;replace qfT:=eq_true qfT;obtain ⟨qDO,qD1,qrS⟩:=Kd.R_slice HO_9.out
               (first|subst qrS|(injection qrS with f1_ f2_ f3_;have f4_:=f1_.symm;have f5_:=f3_.symm;clear f1_ f2_ f3_;subst f4_;subst f5_))
               have qfQ:0≤(QF:Int):=of_decide_eq_true (by first|(with_reducible assumption)|assumption);have qfU:QF<(J8.length:Int):=of_decide_eq_true (by first|(with_reducible assumption)|assumption);obtain ⟨qkH,qpK,WU⟩:=Kd.at_int (Kd.R_reads' HO_9.out).2.2 QF qfQ qfU;cases qpK;replace qfQ:=eq_true qfQ;replace qfU:=eq_true qfU;refine Kr (n:=18) (S:=fun w'=>w'.cell? (Wj.add ((QF).toNat*2))=some (.int .i64 ((Qs J4 QF).f0))∧w'.cell? ⟨(Wj.add ((QF).toNat*2)).block,(Wj.add ((QF).toNat*2)).off+1,none⟩=some (.int .i64 ((Qs J4 QF).f1))∧w'.cell? (qkH.add (QF).toNat)=some (.int .i64 (rd J8 QF))) (ds:=[]) #[false,false,false,false,false,false,false,false,false,false,false,false,false,false,false,false,false,false] (by kernel_rfl) rfl rfl ⟨WS,WT,WU⟩ (fun hHeld => ?_);refine JC Q9.tab26 Q9.bits26 (fun HT_ HW_ => ?_)
               generalize wr.drew=w66 at HO_7 HO_9 HO_14 HB WS WT WU hHeld ⊢
               refine Qx (i:=0) (N:=some 141) (v:=?_) (a':=?_) #[true,false,false,false,false,false,false,false,false,false,false,false,false,false,false,false,false,false] rfl rfl (Qr HT_.out (by kernel_rfl)) (fun _ _ _ h=>h) (Or.inl ⟨by rfl,?_⟩) ?_ ?_
               rotate_left
               ·
                intro w'
                go_simp
                with_reducible rfl
               rotate_left
               ·
                simp only [Act.put,List.setIfInBounds_toArray,List.set_cons_zero,List.set_cons_succ,Qp,Qq]
                rfl
               refine Qx (i:=1) (N:=some 142) (v:=?_) (a':=?_) #[true,true,false,false,false,false,false,false,false,false,false,false,false,false,false,false,false,false] rfl rfl (Qr HT_.out (by kernel_rfl)) (fun _ _ _ h=>h) (Or.inl ⟨by rfl,?_⟩) ?_ ?_
               rotate_left
               ·
                intro w'
                go_simp
                with_reducible rfl
               rotate_left
               ·
                simp only [Act.put,List.setIfInBounds_toArray,List.set_cons_zero,List.set_cons_succ,Qp,Qq]
                rfl
               refine Qx (i:=2) (N:=some 143) (v:=?_) (a':=?_) #[true,true,true,false,false,false,false,false,false,false,false,false,false,false,false,false,false,false] rfl rfl (Qr HT_.out (by kernel_rfl)) (fun _ _ _ h=>h) (Or.inl ⟨by rfl,?_⟩) ?_ ?_
               rotate_left
               ·
                intro w'
                go_simp
                with_reducible rfl
               rotate_left
               ·
                simp only [Act.put,List.setIfInBounds_toArray,List.set_cons_zero,List.set_cons_succ,Qp,Qq]
                rfl
               refine Qx (i:=4) (N:=some 145) (v:=?_) (a':=?_) #[true,true,true,false,true,false,false,false,false,false,false,false,false,false,false,false,false,false] rfl rfl (Qr HT_.out (by kernel_rfl)) (fun _ _ _ h=>h) (Or.inl ⟨by rfl,?_⟩) ?_ ?_
               rotate_left
               ·
                intro w'
                go_simp
                with_reducible rfl
               rotate_left
               ·
                simp only [Act.put,List.setIfInBounds_toArray,List.set_cons_zero,List.set_cons_succ,Qp,Qq]
                rfl
               refine Qx (i:=5) (N:=some 146) (v:=?_) (a':=?_) #[true,true,true,false,true,true,false,false,false,false,false,false,false,false,false,false,false,false] rfl rfl (Qr HT_.out (by kernel_rfl)) (fun _ _ _ h=>h) (Or.inl ⟨by rfl,?_⟩) ?_ ?_
               rotate_left
               ·
                intro w'
                go_simp
                with_reducible rfl
               rotate_left
               ·
                simp only [Act.put,List.setIfInBounds_toArray,List.set_cons_zero,List.set_cons_succ,Qp,Qq]
                rfl
               refine Qx (i:=6) (N:=some 147) (v:=?_) (a':=?_) #[true,true,true,false,true,true,true,false,false,false,false,false,false,false,false,false,false,false] rfl rfl (Qr HT_.out (by kernel_rfl)) (fun _ _ _ h=>h) (Or.inl ⟨by rfl,?_⟩) ?_ ?_
               rotate_left
               ·
                intro w'
                go_simp
                with_reducible rfl
               rotate_left
               ·
                simp only [Act.put,List.setIfInBounds_toArray,List.set_cons_zero,List.set_cons_succ,Qp,Qq]
                rfl
               refine JG (i:=3) (N:=some 144) (v:=?_) (a':=?_) #[true,true,true,true,true,true,true,false,false,false,false,false,false,false,false,false,false,false] rfl rfl (Z8 HT_.out HW_.out (by kernel_rfl)) (fun _ _ _ h=>h) (Or.inl ⟨by rfl,?_⟩) hHeld ?_ ?_
               rotate_left
               ·
                rintro w' ⟨s0,s1,s2⟩
                go_simp
                with_reducible rfl
               rotate_left
               ·
                simp only [Act.put,List.setIfInBounds_toArray,List.set_cons_zero,List.set_cons_succ,Qp,Qq]
                rfl
               refine JG (i:=7) (N:=some 148) (v:=?_) (a':=?_) #[true,true,true,true,true,true,true,true,false,false,false,false,false,false,false,false,false,false] rfl rfl (Z8 HT_.out HW_.out (by kernel_rfl)) (fun _ _ _ h=>h) (Or.inl ⟨by rfl,?_⟩) hHeld ?_ ?_
               rotate_left
               ·
                rintro w' ⟨s0,s1,s2⟩
                go_simp
                with_reducible rfl
               rotate_left
               ·
                simp only [Act.put,List.setIfInBounds_toArray,List.set_cons_zero,List.set_cons_succ,Qp,Qq]
                rfl
               refine one_ (i:=8) (N:=some 149) #[true,true,true,true,true,true,true,true,true,false,false,false,false,false,false,false,false,false] rfl rfl (JE HT_.out (by kernel_rfl)) (by decide) (fun K hK => ?_);refine Kv Try.func44 (by kernel_rfl) rfl #[.agg #[.int .i64 ((Qs J4 QF).f0),.int .i64 ((Qs J4 QF).f1)],.int .i64 (rd J8 QF)] (by rfl) rfl rfl (by (try simp only [List.map_toArray,List.map_cons,List.map_nil]);first|done|rfl|(simp only [List.length_drop,List.length_take];rfl)) ?_
               with_reducible refine (Jg.calls ((Qs J4 QF).f0) ((Qs J4 QF).f1) (rd J8 QF) false _ A59.out).mono ?_
               rintro e w68 ⟨rfl,hb⟩;have HS0_:=(hb.cell (World.block_lt_of_cell? _ _ (hHeld.1))).trans (hHeld.1);have HS1_:=(hb.cell (World.block_lt_of_cell? _ _ (hHeld.2.1))).trans (hHeld.2.1);have HS2_:=(hb.cell (World.block_lt_of_cell? _ _ (hHeld.2.2))).trans (hHeld.2.2);refine ⟨_,rfl,?_⟩;have n0_:=Q0.mk (Kd.V_below (by (with_reducible repeat (first|apply Kd.V_alloc|apply Kd.V_drewN|apply Kd.V_drew));exact HO_7.out) hb);have n1_:=Q0.mk (Kd.R_below (by (with_reducible repeat (first|apply Kd.R_alloc|apply Kd.R_drewN|apply Kd.R_drew));exact HO_9.out) hb);have n2_:=Q0.mk (Kd.V_below (by (with_reducible repeat (first|apply Kd.V_alloc|apply Kd.V_drewN|apply Kd.V_drew));exact HO_14.out) hb);have n3_:=Q0.mk (Qi (by repeat (first|(with_reducible first|exact HB.out|apply Q2|apply Q1|apply Q4)|exact HB.out)) hb);clear HO_7 HO_9 HO_14 HB;have HO_7:=n0_;have HO_9:=n1_;have HO_14:=n2_;have HB:=n3_;clear n0_ n1_ n2_ n3_
               (try clear hb)
               (try clear hb2)
               (try clear hk)
               (try clear hi)
               refine hK.out _ _ ⟨HS0_,HS1_,HS2_⟩ (fun hHeld => ?_);clear hK K;refine Jr (a':=?_) ?_ ?_
               rotate_left
               ·
                show Act.put _ (some 149) _=_
                simp only [Act.put,List.setIfInBounds_toArray,List.set_cons_zero,List.set_cons_succ,Qp,Qq]
                rfl
               refine Qx (i:=9) (N:=some 150) (v:=?_) (a':=?_) #[true,true,true,true,true,true,true,true,true,true,false,false,false,false,false,false,false,false] rfl rfl (Qr HT_.out (by kernel_rfl)) (fun _ _ _ h=>h) (Or.inl ⟨by rfl,?_⟩) ?_ ?_
               rotate_left
               ·
                intro w'
                go_simp
                with_reducible rfl
               rotate_left
               ·
                simp only [Act.put,List.setIfInBounds_toArray,List.set_cons_zero,List.set_cons_succ,Qp,Qq]
                rfl
               refine Qx (i:=10) (N:=some 151) (v:=?_) (a':=?_) #[true,true,true,true,true,true,true,true,true,true,true,false,false,false,false,false,false,false] rfl rfl (Qr HT_.out (by kernel_rfl)) (fun _ _ _ h=>h) (Or.inl ⟨by rfl,?_⟩) ?_ ?_
               rotate_left
               ·
                intro w'
                go_simp
                with_reducible rfl
               rotate_left
               ·
                simp only [Act.put,List.setIfInBounds_toArray,List.set_cons_zero,List.set_cons_succ,Qp,Qq]
                rfl
               refine Qx (i:=11) (N:=some 152) (v:=undef) (a':=?_) #[true,true,true,true,true,true,true,true,true,true,true,true,false,false,false,false,false,false] rfl rfl (Qr HT_.out (by kernel_rfl)) (fun _ _ _ h=>h) (Or.inr ⟨by rfl,rfl⟩) ?_ ?_
               rotate_left
               ·
                simp only [Act.put,List.setIfInBounds_toArray,List.set_cons_zero,List.set_cons_succ,Qp,Qq]
                rfl
               refine Qx (i:=12) (N:=some 153) (v:=undef) (a':=?_) #[true,true,true,true,true,true,true,true,true,true,true,true,true,false,false,false,false,false] rfl rfl (Qr HT_.out (by kernel_rfl)) (fun _ _ _ h=>h) (Or.inr ⟨by rfl,rfl⟩) ?_ ?_
               rotate_left
               ·
                simp only [Act.put,List.setIfInBounds_toArray,List.set_cons_zero,List.set_cons_succ,Qp,Qq]
                rfl
               refine Qx (i:=13) (N:=some 154) (v:=undef) (a':=?_) #[true,true,true,true,true,true,true,true,true,true,true,true,true,true,false,false,false,false] rfl rfl (Qr HT_.out (by kernel_rfl)) (fun _ _ _ h=>h) (Or.inr ⟨by rfl,rfl⟩) ?_ ?_
               rotate_left
               ·
                simp only [Act.put,List.setIfInBounds_toArray,List.set_cons_zero,List.set_cons_succ,Qp,Qq]
                rfl
               refine Qx (i:=14) (N:=some 155) (v:=undef) (a':=?_) #[true,true,true,true,true,true,true,true,true,true,true,true,true,true,true,false,false,false] rfl rfl (Qr HT_.out (by kernel_rfl)) (fun _ _ _ h=>h) (Or.inr ⟨by rfl,rfl⟩) ?_ ?_
               rotate_left
               ·
                simp only [Act.put,List.setIfInBounds_toArray,List.set_cons_zero,List.set_cons_succ,Qp,Qq]
                rfl
               refine Qx (i:=15) (N:=some 156) (v:=undef) (a':=?_) #[true,true,true,true,true,true,true,true,true,true,true,true,true,true,true,true,false,false] rfl rfl (Qr HT_.out (by kernel_rfl)) (fun _ _ _ h=>h) (Or.inr ⟨by rfl,rfl⟩) ?_ ?_
               rotate_left
               ·
                simp only [Act.put,List.setIfInBounds_toArray,List.set_cons_zero,List.set_cons_succ,Qp,Qq]
                rfl
               refine Qx (i:=16) (N:=some 157) (v:=undef) (a':=?_) #[true,true,true,true,true,true,true,true,true,true,true,true,true,true,true,true,true,false] rfl rfl (Qr HT_.out (by kernel_rfl)) (fun _ _ _ h=>h) (Or.inr ⟨by rfl,rfl⟩) ?_ ?_
               rotate_left
               ·
                simp only [Act.put,List.setIfInBounds_toArray,List.set_cons_zero,List.set_cons_succ,Qp,Qq]
                rfl
               refine Qx (i:=17) (N:=some 158) (v:=?_) (a':=?_) #[true,true,true,true,true,true,true,true,true,true,true,true,true,true,true,true,true,true] rfl rfl (Qr HT_.out (by kernel_rfl)) (fun _ _ _ h=>h) (Or.inl ⟨by rfl,?_⟩) ?_ ?_
               rotate_left
               ·
                intro w'
                go_simp
                with_reducible rfl
               rotate_left
               ·
                simp only [Act.put,List.setIfInBounds_toArray,List.set_cons_zero,List.set_cons_succ,Qp,Qq]
                rfl
               refine OC (Gi HT_.out (by kernel_rfl)) ?_
               try go_wp2
               go_meet
               case rel=>exact ⟨_,(true),(by first|rfl|(simp;done)|(simp [*];done)),H',⟨by have:=HJ2.out;have:=Wh.out;have:=HK3.out;have:=qcO.out;have:=HK5.out;first|omega|exact Nat.le_refl _⟩,⟨by (with_reducible repeat (first|apply Kd.V_alloc|apply Kd.V_drewN|apply Kd.V_drew));exact HO_7.out⟩,⟨by (with_reducible repeat (first|apply Kd.R_alloc|apply Kd.R_drewN|apply Kd.R_drew));exact HO_9.out⟩,⟨by (with_reducible repeat (first|apply Kd.V_alloc|apply Kd.V_drewN|apply Kd.V_drew));exact HO_14.out⟩,⟨by repeat (first|(with_reducible first|exact HB.out|apply Q2|apply Q1|apply Q4)|exact HB.out)⟩⟩
              rw [if_neg c58] at H
              exact absurd H (by simp)
             rw [if_neg c57] at H
             exact absurd H (by simp)
            case rest =>
             clear qpt;(try clear c1);(try clear c2);(try clear p2);(try clear c3);(try clear c4);(try clear c4b0);(try clear c4b1);(try clear c5);(try clear c5b0);(try clear c5b1);(try clear c6);(try clear c6b0);(try clear p6);(try clear c7);(try clear p7);(try clear q7);(try clear hx7);(try clear qi7);(try clear c8);(try clear c10);(try clear c15);(try clear c15b0);(try clear c15b1);(try clear c18);(try clear c19);(try clear c19b0);(try clear c19b1);(try clear c20);(try clear c20b0);(try clear c20b1);(try clear c20b2);(try clear c22);(try clear c27);(try clear c27b0);(try clear c28);(try clear c28b0);(try clear c29);(try clear c29b0);(try clear c30);(try clear c30b0);(try clear c31);(try clear c31b0);(try clear c32);(try clear c32b0);(try clear c39);(try clear c41);(try clear c42);(try clear c43);(try clear c44);(try clear c47);(try clear c48);(try clear c48b0);(try clear c48b1);(try clear c49);(try clear c49b0);(try clear c49b1);(try clear c49b2);(try clear c53);(try clear c54);(try clear c54b0);(try clear c57);(try clear c57b0);(try clear c58);(try clear c58b0);(try clear c60);(try clear JN);(try clear qat);(try clear Ou);(try clear Uj);(try clear Uk);(try clear Ov);(try clear Ul);(try clear Um);(try clear WS);(try clear WT);(try clear WU);(try clear qd7);(try clear qd8);(try clear p2);(try clear p6);(try clear p7);(try clear qaC);(try clear qjs);(try clear qjt);(try clear qju);(try clear qjv);(try clear qjw);(try clear qfP);(try clear qfQ);(try clear qnZ);(try clear q7);(try clear qaE);(try clear qjx);(try clear qjy);(try clear qjz);(try clear qjA);(try clear qjB);(try clear qfT);(try clear qfU);(try clear qn8);obtain ⟨kq,qca,rfl,HA,qeU,HO_7,HO_9,HO_14,HB⟩:=hcut
             cases kq with
             | zero=>exact absurd HA.out (by simp [Q9.j7])
             | succ qbm =>
              have H:=HA.out;clear HA;simp only [Q9.j7] at H
              by_cases c69:qca=true
              ·
               subst c69
               have H1:(some false)=some r:=by rw [if_pos rfl] at H;exact H
               clear H;have H:=H1;clear H1;obtain rfl:=Option.some.inj H
               go_wp2
               go_ret
               exact ⟨by first|rfl|(simp [Qv,Qw]<;>rfl)|(simp [*,Qv,Qw]<;>rfl),by repeat (first|(with_reducible first|exact HB.out|apply Q2|apply Q1|apply Q4)|exact HB.out)⟩
              as_aux_lemma =>
              replace c69:=Bool.eq_false_iff.mpr c69;subst c69
              have H1:(if (l0.length:Int)>1 then (if 0≤QF then (if QF<(YQ.length:Int) then ((Qt.f 0 100).bind fun qe3=>(if (!(((Qs YQ QF).f0)==qe3.1)||(!(((Qs YQ QF).f1)==qe3.2)))=true then (some false) else (if (l0.length:Int)=1 then ((Qt.f 100 100).bind fun qbc=>(if (!(((Qs YQ QF).f0)==qbc.1)||(!(((Qs YQ QF).f1)==qbc.2)))=true then (some false) else (Q9.l3 qbm l0 YQ J8 J4 (wrap64 (QF+1))))) else (Q9.l3 qbm l0 YQ J8 J4 (wrap64 (QF+1)))))) else (none)) else (none)) else (if (l0.length:Int)=1 then (if 0≤QF then (if QF<(YQ.length:Int) then ((Qt.f 100 100).bind fun qe4=>(if (!(((Qs YQ QF).f0)==qe4.1)||(!(((Qs YQ QF).f1)==qe4.2)))=true then (some false) else (Q9.l3 qbm l0 YQ J8 J4 (wrap64 (QF+1))))) else (none)) else (none)) else (Q9.l3 qbm l0 YQ J8 J4 (wrap64 (QF+1)))))=some r:=by rw [if_neg (show ¬ (false=true) by decide)] at H;exact H
              clear H;have H:=H1;clear H1
              by_cases c70:(l0.length:Int)>1
              ·
               as_aux_lemma =>
               rw [if_pos c70] at H;have c70b0:decide (1<(l0.length:Int))=true:=decide_eq_true c70;have c70b1:decide (1<l0.length)=true:=decide_eq_true (by omega);clear c70
               by_cases c71:0≤QF
               ·
                as_aux_lemma =>
                rw [if_pos c71] at H;have c71b0:decide (0≤QF)=true:=decide_eq_true c71;clear c71
                by_cases c72:QF<(YQ.length:Int)
                ·
                 as_aux_lemma =>
                 rw [if_pos c72] at H;have c72b0:decide (QF<(YQ.length:Int))=true:=decide_eq_true c72;clear c72;replace H:=Option.bind_eq_some_iff.mp H;obtain ⟨⟨qgk,qgl⟩,qqJ,H⟩:=H;replace H:(if (!(((Qs YQ QF).f0)==qgk)||(!(((Qs YQ QF).f1)==qgl)))=true then (some false) else (if (l0.length:Int)=1 then ((Qt.f 100 100).bind fun qbc=>(if (!(((Qs YQ QF).f0)==qbc.1)||(!(((Qs YQ QF).f1)==qbc.2)))=true then (some false) else (Q9.l3 qbm l0 YQ J8 J4 (wrap64 (QF+1))))) else (Q9.l3 qbm l0 YQ J8 J4 (wrap64 (QF+1)))))=some r:=H;have A73:=Q0.mk qqJ;clear qqJ
                 by_cases c74:(!(((Qs YQ QF).f0)==qgk)||(!(((Qs YQ QF).f1)==qgl)))=true
                 ·
                  as_aux_lemma =>
                  rw [if_pos c74] at H;have c74b0:(!(((Qs YQ QF).f0)==qgk)||(!(((Qs YQ QF).f1)==qgl)))=true:=c74;clear c74;obtain rfl:=Option.some.inj H
                  try go_wp2
                  have n0_:=Q0.mk (Kd.V_drew HO_7.out);have n1_:=Q0.mk (Kd.R_drew HO_9.out);have n2_:=Q0.mk (Kd.V_drew HO_14.out);have n3_:=Q0.mk (Q4 HB.out);clear HO_7 HO_9 HO_14 HB;have HO_7:=n0_;have HO_9:=n1_;have HO_14:=n2_;have HB:=n3_;clear n0_ n1_ n2_ n3_;obtain ⟨qDP,qD2,qrT⟩:=Kd.V_slice HO_7.out
                  (first|subst qrT|(injection qrT with f1_ f2_ f3_;have f4_:=f1_.symm;have f5_:=f3_.symm;clear f1_ f2_ f3_;subst f4_;subst f5_))
                  have Xn:0≤(QF:Int):=of_decide_eq_true (by first|(with_reducible assumption)|assumption);have Xq:QF<(YQ.length:Int):=of_decide_eq_true (by first|(with_reducible assumption)|assumption);obtain ⟨Gx,qgG,KG,KH⟩:=JM (Kd.V_reads' HO_7.out).2.2 QF Xn Xq;cases qgG;replace Xn:=eq_true Xn;replace Xq:=eq_true Xq;refine Kr (n:=22) (S:=fun w'=>w'.cell? (Gx.add ((QF).toNat*2))=some (.int .i64 ((Qs YQ QF).f0))∧w'.cell? ⟨(Gx.add ((QF).toNat*2)).block,(Gx.add ((QF).toNat*2)).off+1,none⟩=some (.int .i64 ((Qs YQ QF).f1))) (ds:=[]) #[false,false,false,false,false,false,false,false,false,false,false,false,false,false,false,false,false,false,false,false,false,false] (by kernel_rfl) rfl rfl ⟨KG,KH⟩ (fun hHeld => ?_);refine JC Q9.tab29 Q9.bits29 (fun HT_ HW_ => ?_)
                  generalize wc.drew=w75 at HO_7 HO_9 HO_14 HB KG KH hHeld ⊢
                  refine Qx (i:=0) (N:=some 161) (v:=?_) (a':=?_) #[true,false,false,false,false,false,false,false,false,false,false,false,false,false,false,false,false,false,false,false,false,false] rfl rfl (Qr HT_.out (by kernel_rfl)) (fun _ _ _ h=>h) (Or.inl ⟨by rfl,?_⟩) ?_ ?_
                  rotate_left
                  ·
                   intro w'
                   go_simp
                   with_reducible rfl
                  rotate_left
                  ·
                   simp only [Act.put,List.setIfInBounds_toArray,List.set_cons_zero,List.set_cons_succ,Qp,Qq]
                   rfl
                  refine Qx (i:=1) (N:=some 162) (v:=?_) (a':=?_) #[true,true,false,false,false,false,false,false,false,false,false,false,false,false,false,false,false,false,false,false,false,false] rfl rfl (Qr HT_.out (by kernel_rfl)) (fun _ _ _ h=>h) (Or.inl ⟨by rfl,?_⟩) ?_ ?_
                  rotate_left
                  ·
                   intro w'
                   go_simp
                   with_reducible rfl
                  rotate_left
                  ·
                   simp only [Act.put,List.setIfInBounds_toArray,List.set_cons_zero,List.set_cons_succ,Qp,Qq]
                   rfl
                  refine Qx (i:=2) (N:=some 163) (v:=?_) (a':=?_) #[true,true,true,false,false,false,false,false,false,false,false,false,false,false,false,false,false,false,false,false,false,false] rfl rfl (Qr HT_.out (by kernel_rfl)) (fun _ _ _ h=>h) (Or.inl ⟨by rfl,?_⟩) ?_ ?_
                  rotate_left
                  ·
                   intro w'
                   go_simp
                   with_reducible rfl
                  rotate_left
                  ·
                   simp only [Act.put,List.setIfInBounds_toArray,List.set_cons_zero,List.set_cons_succ,Qp,Qq]
                   rfl
                  refine Qx (i:=3) (N:=some 164) (v:=?_) (a':=?_) #[true,true,true,true,false,false,false,false,false,false,false,false,false,false,false,false,false,false,false,false,false,false] rfl rfl (Qr HT_.out (by kernel_rfl)) (fun _ _ _ h=>h) (Or.inl ⟨by rfl,?_⟩) ?_ ?_
                  rotate_left
                  ·
                   intro w'
                   go_simp
                   with_reducible rfl
                  rotate_left
                  ·
                   simp only [Act.put,List.setIfInBounds_toArray,List.set_cons_zero,List.set_cons_succ,Qp,Qq]
                   rfl
                  refine Qx (i:=4) (N:=some 165) (v:=?_) (a':=?_) #[true,true,true,true,true,false,false,false,false,false,false,false,false,false,false,false,false,false,false,false,false,false] rfl rfl (Qr HT_.out (by kernel_rfl)) (fun _ _ _ h=>h) (Or.inl ⟨by rfl,?_⟩) ?_ ?_
                  rotate_left
                  ·
                   intro w'
                   go_simp
                   with_reducible rfl
                  rotate_left
                  ·
                   simp only [Act.put,List.setIfInBounds_toArray,List.set_cons_zero,List.set_cons_succ,Qp,Qq]
                   rfl
                  refine Qx (i:=5) (N:=some 166) (v:=?_) (a':=?_) #[true,true,true,true,true,true,false,false,false,false,false,false,false,false,false,false,false,false,false,false,false,false] rfl rfl (Qr HT_.out (by kernel_rfl)) (fun _ _ _ h=>h) (Or.inl ⟨by rfl,?_⟩) ?_ ?_
                  rotate_left
                  ·
                   intro w'
                   go_simp
                   with_reducible rfl
                  rotate_left
                  ·
                   simp only [Act.put,List.setIfInBounds_toArray,List.set_cons_zero,List.set_cons_succ,Qp,Qq]
                   rfl
                  refine JG (i:=6) (N:=some 167) (v:=?_) (a':=?_) #[true,true,true,true,true,true,true,false,false,false,false,false,false,false,false,false,false,false,false,false,false,false] rfl rfl (Z8 HT_.out HW_.out (by kernel_rfl)) (fun _ _ _ h=>h) (Or.inl ⟨by rfl,?_⟩) hHeld ?_ ?_
                  rotate_left
                  ·
                   rintro w' ⟨s0,s1⟩
                   go_simp
                   with_reducible rfl
                  rotate_left
                  ·
                   simp only [Act.put,List.setIfInBounds_toArray,List.set_cons_zero,List.set_cons_succ,Qp,Qq]
                   rfl
                  refine one_ (i:=7) (N:=some 168) #[true,true,true,true,true,true,true,true,false,false,false,false,false,false,false,false,false,false,false,false,false,false] rfl rfl (JE HT_.out (by kernel_rfl)) (by decide) (fun K hK => ?_);refine Kv Try.func43 (by kernel_rfl) rfl #[.int .i64 0,.int .i64 100] (by rfl) rfl rfl (by (try simp only [List.map_toArray,List.map_cons,List.map_nil]);first|done|rfl|(simp only [List.length_drop,List.length_take];rfl)) ?_
                  with_reducible refine (Qt.calls 0 100 qgk qgl _ A73.out).mono ?_
                  rintro e w77 ⟨rfl,hb⟩;have HS0_:=(hb.cell (World.block_lt_of_cell? _ _ (hHeld.1))).trans (hHeld.1);have HS1_:=(hb.cell (World.block_lt_of_cell? _ _ (hHeld.2))).trans (hHeld.2);refine ⟨_,rfl,?_⟩;have n0_:=Q0.mk (Kd.V_below (by (with_reducible repeat (first|apply Kd.V_alloc|apply Kd.V_drewN|apply Kd.V_drew));exact HO_7.out) hb);have n1_:=Q0.mk (Kd.R_below (by (with_reducible repeat (first|apply Kd.R_alloc|apply Kd.R_drewN|apply Kd.R_drew));exact HO_9.out) hb);have n2_:=Q0.mk (Kd.V_below (by (with_reducible repeat (first|apply Kd.V_alloc|apply Kd.V_drewN|apply Kd.V_drew));exact HO_14.out) hb);have n3_:=Q0.mk (Qi (by repeat (first|(with_reducible first|exact HB.out|apply Q2|apply Q1|apply Q4)|exact HB.out)) hb);clear HO_7 HO_9 HO_14 HB;have HO_7:=n0_;have HO_9:=n1_;have HO_14:=n2_;have HB:=n3_;clear n0_ n1_ n2_ n3_
                  (try clear hb)
                  (try clear hb2)
                  (try clear hk)
                  (try clear hi)
                  refine hK.out _ _ ⟨HS0_,HS1_⟩ (fun hHeld => ?_);clear hK K;refine Jr (a':=?_) ?_ ?_
                  rotate_left
                  ·
                   show Act.put _ (some 168) _=_
                   simp only [Act.put,List.setIfInBounds_toArray,List.set_cons_zero,List.set_cons_succ,Qp,Qq]
                   rfl
                  refine Qx (i:=8) (N:=some 169) (v:=?_) (a':=?_) #[true,true,true,true,true,true,true,true,true,false,false,false,false,false,false,false,false,false,false,false,false,false] rfl rfl (Qr HT_.out (by kernel_rfl)) (fun _ _ _ h=>h) (Or.inl ⟨by rfl,?_⟩) ?_ ?_
                  rotate_left
                  ·
                   intro w'
                   go_simp
                   with_reducible rfl
                  rotate_left
                  ·
                   simp only [Act.put,List.setIfInBounds_toArray,List.set_cons_zero,List.set_cons_succ,Qp,Qq]
                   rfl
                  refine Qx (i:=9) (N:=some 170) (v:=?_) (a':=?_) #[true,true,true,true,true,true,true,true,true,true,false,false,false,false,false,false,false,false,false,false,false,false] rfl rfl (Qr HT_.out (by kernel_rfl)) (fun _ _ _ h=>h) (Or.inl ⟨by rfl,?_⟩) ?_ ?_
                  rotate_left
                  ·
                   intro w'
                   go_simp
                   with_reducible rfl
                  rotate_left
                  ·
                   simp only [Act.put,List.setIfInBounds_toArray,List.set_cons_zero,List.set_cons_succ,Qp,Qq]
                   rfl
                  refine Qx (i:=10) (N:=some 171) (v:=?_) (a':=?_) #[true,true,true,true,true,true,true,true,true,true,true,false,false,false,false,false,false,false,false,false,false,false] rfl rfl (Qr HT_.out (by kernel_rfl)) (fun _ _ _ h=>h) (Or.inl ⟨by rfl,?_⟩) ?_ ?_
                  rotate_left
                  ·
                   intro w'
                   go_simp
                   with_reducible rfl
                  rotate_left
                  ·
                   simp only [Act.put,List.setIfInBounds_toArray,List.set_cons_zero,List.set_cons_succ,Qp,Qq]
                   rfl
                  refine Qx (i:=11) (N:=some 172) (v:=undef) (a':=?_) #[true,true,true,true,true,true,true,true,true,true,true,true,false,false,false,false,false,false,false,false,false,false] rfl rfl (Qr HT_.out (by kernel_rfl)) (fun _ _ _ h=>h) (Or.inr ⟨by rfl,rfl⟩) ?_ ?_
                  rotate_left
                  ·
                   simp only [Act.put,List.setIfInBounds_toArray,List.set_cons_zero,List.set_cons_succ,Qp,Qq]
                   rfl
                  refine Qx (i:=12) (N:=some 173) (v:=undef) (a':=?_) #[true,true,true,true,true,true,true,true,true,true,true,true,true,false,false,false,false,false,false,false,false,false] rfl rfl (Qr HT_.out (by kernel_rfl)) (fun _ _ _ h=>h) (Or.inr ⟨by rfl,rfl⟩) ?_ ?_
                  rotate_left
                  ·
                   simp only [Act.put,List.setIfInBounds_toArray,List.set_cons_zero,List.set_cons_succ,Qp,Qq]
                   rfl
                  refine Qx (i:=13) (N:=some 174) (v:=undef) (a':=?_) #[true,true,true,true,true,true,true,true,true,true,true,true,true,true,false,false,false,false,false,false,false,false] rfl rfl (Qr HT_.out (by kernel_rfl)) (fun _ _ _ h=>h) (Or.inr ⟨by rfl,rfl⟩) ?_ ?_
                  rotate_left
                  ·
                   simp only [Act.put,List.setIfInBounds_toArray,List.set_cons_zero,List.set_cons_succ,Qp,Qq]
                   rfl
                  refine Qx (i:=14) (N:=some 175) (v:=undef) (a':=?_) #[true,true,true,true,true,true,true,true,true,true,true,true,true,true,true,false,false,false,false,false,false,false] rfl rfl (Qr HT_.out (by kernel_rfl)) (fun _ _ _ h=>h) (Or.inr ⟨by rfl,rfl⟩) ?_ ?_
                  rotate_left
                  ·
                   simp only [Act.put,List.setIfInBounds_toArray,List.set_cons_zero,List.set_cons_succ,Qp,Qq]
                   rfl
                  refine Qx (i:=15) (N:=some 176) (v:=undef) (a':=?_) #[true,true,true,true,true,true,true,true,true,true,true,true,true,true,true,true,false,false,false,false,false,false] rfl rfl (Qr HT_.out (by kernel_rfl)) (fun _ _ _ h=>h) (Or.inr ⟨by rfl,rfl⟩) ?_ ?_
                  rotate_left
                  ·
                   simp only [Act.put,List.setIfInBounds_toArray,List.set_cons_zero,List.set_cons_succ,Qp,Qq]
                   rfl
                  refine Qx (i:=16) (N:=some 177) (v:=undef) (a':=?_) #[true,true,true,true,true,true,true,true,true,true,true,true,true,true,true,true,true,false,false,false,false,false] rfl rfl (Qr HT_.out (by kernel_rfl)) (fun _ _ _ h=>h) (Or.inr ⟨by rfl,rfl⟩) ?_ ?_
                  rotate_left
                  ·
                   simp only [Act.put,List.setIfInBounds_toArray,List.set_cons_zero,List.set_cons_succ,Qp,Qq]
                   rfl
                  refine Qx (i:=17) (N:=some 178) (v:=undef) (a':=?_) #[true,true,true,true,true,true,true,true,true,true,true,true,true,true,true,true,true,true,false,false,false,false] rfl rfl (Qr HT_.out (by kernel_rfl)) (fun _ _ _ h=>h) (Or.inr ⟨by rfl,rfl⟩) ?_ ?_
                  rotate_left
                  ·
                   simp only [Act.put,List.setIfInBounds_toArray,List.set_cons_zero,List.set_cons_succ,Qp,Qq]
                   rfl
                  refine Qx (i:=18) (N:=some 179) (v:=undef) (a':=?_) #[true,true,true,true,true,true,true,true,true,true,true,true,true,true,true,true,true,true,true,false,false,false] rfl rfl (Qr HT_.out (by kernel_rfl)) (fun _ _ _ h=>h) (Or.inr ⟨by rfl,rfl⟩) ?_ ?_
                  rotate_left
                  ·
                   simp only [Act.put,List.setIfInBounds_toArray,List.set_cons_zero,List.set_cons_succ,Qp,Qq]
                   rfl
                  refine Qx (i:=19) (N:=some 180) (v:=undef) (a':=?_) #[true,true,true,true,true,true,true,true,true,true,true,true,true,true,true,true,true,true,true,true,false,false] rfl rfl (Qr HT_.out (by kernel_rfl)) (fun _ _ _ h=>h) (Or.inr ⟨by rfl,rfl⟩) ?_ ?_
                  rotate_left
                  ·
                   simp only [Act.put,List.setIfInBounds_toArray,List.set_cons_zero,List.set_cons_succ,Qp,Qq]
                   rfl
                  refine Qx (i:=20) (N:=some 181) (v:=undef) (a':=?_) #[true,true,true,true,true,true,true,true,true,true,true,true,true,true,true,true,true,true,true,true,true,false] rfl rfl (Qr HT_.out (by kernel_rfl)) (fun _ _ _ h=>h) (Or.inr ⟨by rfl,rfl⟩) ?_ ?_
                  rotate_left
                  ·
                   simp only [Act.put,List.setIfInBounds_toArray,List.set_cons_zero,List.set_cons_succ,Qp,Qq]
                   rfl
                  refine Qx (i:=21) (N:=some 182) (v:=?_) (a':=?_) #[true,true,true,true,true,true,true,true,true,true,true,true,true,true,true,true,true,true,true,true,true,true] rfl rfl (Qr HT_.out (by kernel_rfl)) (fun _ _ _ h=>h) (Or.inl ⟨by rfl,?_⟩) ?_ ?_
                  rotate_left
                  ·
                   intro w'
                   go_simp
                   with_reducible rfl
                  rotate_left
                  ·
                   simp only [Act.put,List.setIfInBounds_toArray,List.set_cons_zero,List.set_cons_succ,Qp,Qq]
                   rfl
                  refine OC (Gi HT_.out (by kernel_rfl)) ?_
                  try go_wp2
                  go_ret
                  exact ⟨by first|rfl|(simp [Qv,Qw]<;>rfl)|(simp [*,Qv,Qw]<;>rfl),by repeat (first|(with_reducible first|exact HB.out|apply Q2|apply Q1|apply Q4)|exact HB.out)⟩
                 as_aux_lemma =>
                 rw [if_neg c74] at H
                 have c74b0:(!(((Qs YQ QF).f0)==qgk)||(!(((Qs YQ QF).f1)==qgl)))=false:=by simpa using c74
                 clear c74
                 by_cases c78:(l0.length:Int)=1
                 ·
                  as_aux_lemma =>
                  rw [if_pos c78] at H;have c78b0:((l0.length:Int)==1)=true:=beq_iff_eq.mpr c78;have c78b1:((l0.length:Int) != 1)=false:=bne_eq_false_iff_eq.mpr c78;clear c78;replace H:=Option.bind_eq_some_iff.mp H;obtain ⟨⟨qj2,qj3⟩,qqK,H⟩:=H;replace H:(if (!(((Qs YQ QF).f0)==qj2)||(!(((Qs YQ QF).f1)==qj3)))=true then (some false) else (Q9.l3 qbm l0 YQ J8 J4 (wrap64 (QF+1))))=some r:=H;have A79:=Q0.mk qqK;clear qqK
                  by_cases c80:(!(((Qs YQ QF).f0)==qj2)||(!(((Qs YQ QF).f1)==qj3)))=true
                  ·
                   as_aux_lemma =>
                   rw [if_pos c80] at H;have c80b0:(!(((Qs YQ QF).f0)==qj2)||(!(((Qs YQ QF).f1)==qj3)))=true:=c80;clear c80;obtain rfl:=Option.some.inj H
                   try go_wp2
                   have n0_:=Q0.mk (Kd.V_drew HO_7.out);have n1_:=Q0.mk (Kd.R_drew HO_9.out);have n2_:=Q0.mk (Kd.V_drew HO_14.out);have n3_:=Q0.mk (Q4 HB.out);clear HO_7 HO_9 HO_14 HB;have HO_7:=n0_;have HO_9:=n1_;have HO_14:=n2_;have HB:=n3_;clear n0_ n1_ n2_ n3_;obtain ⟨qDQ,qD3,qrU⟩:=Kd.V_slice HO_7.out
                   (first|subst qrU|(injection qrU with f1_ f2_ f3_;have f4_:=f1_.symm;have f5_:=f3_.symm;clear f1_ f2_ f3_;subst f4_;subst f5_))
                   have Xn:0≤(QF:Int):=of_decide_eq_true (by first|(with_reducible assumption)|assumption);have Xq:QF<(YQ.length:Int):=of_decide_eq_true (by first|(with_reducible assumption)|assumption);obtain ⟨Gx,qgG,KG,KH⟩:=JM (Kd.V_reads' HO_7.out).2.2 QF Xn Xq;cases qgG;replace Xn:=eq_true Xn;replace Xq:=eq_true Xq;have qg7:0≤(QF:Int):=of_decide_eq_true (by first|(with_reducible assumption)|assumption);have qhk:QF<(YQ.length:Int):=of_decide_eq_true (by first|(with_reducible assumption)|assumption);obtain ⟨qkI,qpL,qau,qav⟩:=JM (Kd.V_reads' HO_7.out).2.2 QF qg7 qhk;obtain rfl:Gx=qkI:=(by injection qpL);replace qg7:=eq_true qg7;replace qhk:=eq_true qhk;refine Kr (n:=22) (S:=fun w'=>w'.cell? (Gx.add ((QF).toNat*2))=some (.int .i64 ((Qs YQ QF).f0))∧w'.cell? ⟨(Gx.add ((QF).toNat*2)).block,(Gx.add ((QF).toNat*2)).off+1,none⟩=some (.int .i64 ((Qs YQ QF).f1))∧w'.cell? (Gx.add ((QF).toNat*2))=some (.int .i64 ((Qs YQ QF).f0))∧w'.cell? ⟨(Gx.add ((QF).toNat*2)).block,(Gx.add ((QF).toNat*2)).off+1,none⟩=some (.int .i64 ((Qs YQ QF).f1))) (ds:=[]) #[false,false,false,false,false,false,false,false,false,false,false,false,false,false,false,false,false,false,false,false,false,false] (by kernel_rfl) rfl rfl ⟨KG,KH,qau,qav⟩ (fun hHeld => ?_);refine JC Q9.tab29 Q9.bits29 (fun HT_ HW_ => ?_)
                   generalize wc.drew=w81 at HO_7 HO_9 HO_14 HB KG KH qau qav hHeld ⊢
                   refine Qx (i:=0) (N:=some 161) (v:=?_) (a':=?_) #[true,false,false,false,false,false,false,false,false,false,false,false,false,false,false,false,false,false,false,false,false,false] rfl rfl (Qr HT_.out (by kernel_rfl)) (fun _ _ _ h=>h) (Or.inl ⟨by rfl,?_⟩) ?_ ?_
                   rotate_left
                   ·
                    intro w'
                    go_simp
                    with_reducible rfl
                   rotate_left
                   ·
                    simp only [Act.put,List.setIfInBounds_toArray,List.set_cons_zero,List.set_cons_succ,Qp,Qq]
                    rfl
                   refine Qx (i:=1) (N:=some 162) (v:=?_) (a':=?_) #[true,true,false,false,false,false,false,false,false,false,false,false,false,false,false,false,false,false,false,false,false,false] rfl rfl (Qr HT_.out (by kernel_rfl)) (fun _ _ _ h=>h) (Or.inl ⟨by rfl,?_⟩) ?_ ?_
                   rotate_left
                   ·
                    intro w'
                    go_simp
                    with_reducible rfl
                   rotate_left
                   ·
                    simp only [Act.put,List.setIfInBounds_toArray,List.set_cons_zero,List.set_cons_succ,Qp,Qq]
                    rfl
                   refine Qx (i:=2) (N:=some 163) (v:=?_) (a':=?_) #[true,true,true,false,false,false,false,false,false,false,false,false,false,false,false,false,false,false,false,false,false,false] rfl rfl (Qr HT_.out (by kernel_rfl)) (fun _ _ _ h=>h) (Or.inl ⟨by rfl,?_⟩) ?_ ?_
                   rotate_left
                   ·
                    intro w'
                    go_simp
                    with_reducible rfl
                   rotate_left
                   ·
                    simp only [Act.put,List.setIfInBounds_toArray,List.set_cons_zero,List.set_cons_succ,Qp,Qq]
                    rfl
                   refine Qx (i:=3) (N:=some 164) (v:=?_) (a':=?_) #[true,true,true,true,false,false,false,false,false,false,false,false,false,false,false,false,false,false,false,false,false,false] rfl rfl (Qr HT_.out (by kernel_rfl)) (fun _ _ _ h=>h) (Or.inl ⟨by rfl,?_⟩) ?_ ?_
                   rotate_left
                   ·
                    intro w'
                    go_simp
                    with_reducible rfl
                   rotate_left
                   ·
                    simp only [Act.put,List.setIfInBounds_toArray,List.set_cons_zero,List.set_cons_succ,Qp,Qq]
                    rfl
                   refine Qx (i:=4) (N:=some 165) (v:=?_) (a':=?_) #[true,true,true,true,true,false,false,false,false,false,false,false,false,false,false,false,false,false,false,false,false,false] rfl rfl (Qr HT_.out (by kernel_rfl)) (fun _ _ _ h=>h) (Or.inl ⟨by rfl,?_⟩) ?_ ?_
                   rotate_left
                   ·
                    intro w'
                    go_simp
                    with_reducible rfl
                   rotate_left
                   ·
                    simp only [Act.put,List.setIfInBounds_toArray,List.set_cons_zero,List.set_cons_succ,Qp,Qq]
                    rfl
                   refine Qx (i:=5) (N:=some 166) (v:=?_) (a':=?_) #[true,true,true,true,true,true,false,false,false,false,false,false,false,false,false,false,false,false,false,false,false,false] rfl rfl (Qr HT_.out (by kernel_rfl)) (fun _ _ _ h=>h) (Or.inl ⟨by rfl,?_⟩) ?_ ?_
                   rotate_left
                   ·
                    intro w'
                    go_simp
                    with_reducible rfl
                   rotate_left
                   ·
                    simp only [Act.put,List.setIfInBounds_toArray,List.set_cons_zero,List.set_cons_succ,Qp,Qq]
                    rfl
                   refine JG (i:=6) (N:=some 167) (v:=?_) (a':=?_) #[true,true,true,true,true,true,true,false,false,false,false,false,false,false,false,false,false,false,false,false,false,false] rfl rfl (Z8 HT_.out HW_.out (by kernel_rfl)) (fun _ _ _ h=>h) (Or.inl ⟨by rfl,?_⟩) hHeld ?_ ?_
                   rotate_left
                   ·
                    rintro w' ⟨s0,s1,s2,s3⟩
                    go_simp
                    with_reducible rfl
                   rotate_left
                   ·
                    simp only [Act.put,List.setIfInBounds_toArray,List.set_cons_zero,List.set_cons_succ,Qp,Qq]
                    rfl
                   refine one_ (i:=7) (N:=some 168) #[true,true,true,true,true,true,true,true,false,false,false,false,false,false,false,false,false,false,false,false,false,false] rfl rfl (JE HT_.out (by kernel_rfl)) (by decide) (fun K hK => ?_);refine Kv Try.func43 (by kernel_rfl) rfl #[.int .i64 0,.int .i64 100] (by rfl) rfl rfl (by (try simp only [List.map_toArray,List.map_cons,List.map_nil]);first|done|rfl|(simp only [List.length_drop,List.length_take];rfl)) ?_
                   with_reducible refine (Qt.calls 0 100 qgk qgl _ A73.out).mono ?_
                   rintro e w83 ⟨rfl,hb⟩;have HS0_:=(hb.cell (World.block_lt_of_cell? _ _ (hHeld.1))).trans (hHeld.1);have HS1_:=(hb.cell (World.block_lt_of_cell? _ _ (hHeld.2.1))).trans (hHeld.2.1);have HS2_:=(hb.cell (World.block_lt_of_cell? _ _ (hHeld.2.2.1))).trans (hHeld.2.2.1);have HS3_:=(hb.cell (World.block_lt_of_cell? _ _ (hHeld.2.2.2))).trans (hHeld.2.2.2);refine ⟨_,rfl,?_⟩;have n0_:=Q0.mk (Kd.V_below (by (with_reducible repeat (first|apply Kd.V_alloc|apply Kd.V_drewN|apply Kd.V_drew));exact HO_7.out) hb);have n1_:=Q0.mk (Kd.R_below (by (with_reducible repeat (first|apply Kd.R_alloc|apply Kd.R_drewN|apply Kd.R_drew));exact HO_9.out) hb);have n2_:=Q0.mk (Kd.V_below (by (with_reducible repeat (first|apply Kd.V_alloc|apply Kd.V_drewN|apply Kd.V_drew));exact HO_14.out) hb);have n3_:=Q0.mk (Qi (by repeat (first|(with_reducible first|exact HB.out|apply Q2|apply Q1|apply Q4)|exact HB.out)) hb);clear HO_7 HO_9 HO_14 HB;have HO_7:=n0_;have HO_9:=n1_;have HO_14:=n2_;have HB:=n3_;clear n0_ n1_ n2_ n3_
                   (try clear hb)
                   (try clear hb2)
                   (try clear hk)
                   (try clear hi)
                   refine hK.out _ _ ⟨HS0_,HS1_,HS2_,HS3_⟩ (fun hHeld => ?_);clear hK K;refine Jr (a':=?_) ?_ ?_
                   rotate_left
                   ·
                    show Act.put _ (some 168) _=_
                    simp only [Act.put,List.setIfInBounds_toArray,List.set_cons_zero,List.set_cons_succ,Qp,Qq]
                    rfl
                   refine Qx (i:=8) (N:=some 169) (v:=?_) (a':=?_) #[true,true,true,true,true,true,true,true,true,false,false,false,false,false,false,false,false,false,false,false,false,false] rfl rfl (Qr HT_.out (by kernel_rfl)) (fun _ _ _ h=>h) (Or.inl ⟨by rfl,?_⟩) ?_ ?_
                   rotate_left
                   ·
                    intro w'
                    go_simp
                    with_reducible rfl
                   rotate_left
                   ·
                    simp only [Act.put,List.setIfInBounds_toArray,List.set_cons_zero,List.set_cons_succ,Qp,Qq]
                    rfl
                   refine Qx (i:=9) (N:=some 170) (v:=?_) (a':=?_) #[true,true,true,true,true,true,true,true,true,true,false,false,false,false,false,false,false,false,false,false,false,false] rfl rfl (Qr HT_.out (by kernel_rfl)) (fun _ _ _ h=>h) (Or.inl ⟨by rfl,?_⟩) ?_ ?_
                   rotate_left
                   ·
                    intro w'
                    go_simp
                    with_reducible rfl
                   rotate_left
                   ·
                    simp only [Act.put,List.setIfInBounds_toArray,List.set_cons_zero,List.set_cons_succ,Qp,Qq]
                    rfl
                   refine Qx (i:=10) (N:=some 171) (v:=?_) (a':=?_) #[true,true,true,true,true,true,true,true,true,true,true,false,false,false,false,false,false,false,false,false,false,false] rfl rfl (Qr HT_.out (by kernel_rfl)) (fun _ _ _ h=>h) (Or.inl ⟨by rfl,?_⟩) ?_ ?_
                   rotate_left
                   ·
                    intro w'
                    go_simp
                    with_reducible rfl
                   rotate_left
                   ·
                    simp only [Act.put,List.setIfInBounds_toArray,List.set_cons_zero,List.set_cons_succ,Qp,Qq]
                    rfl
                   refine Qx (i:=11) (N:=some 172) (v:=?_) (a':=?_) #[true,true,true,true,true,true,true,true,true,true,true,true,false,false,false,false,false,false,false,false,false,false] rfl rfl (Qr HT_.out (by kernel_rfl)) (fun _ _ _ h=>h) (Or.inl ⟨by rfl,?_⟩) ?_ ?_
                   rotate_left
                   ·
                    intro w'
                    go_simp
                    with_reducible rfl
                   rotate_left
                   ·
                    simp only [Act.put,List.setIfInBounds_toArray,List.set_cons_zero,List.set_cons_succ,Qp,Qq]
                    rfl
                   refine Qx (i:=12) (N:=some 173) (v:=?_) (a':=?_) #[true,true,true,true,true,true,true,true,true,true,true,true,true,false,false,false,false,false,false,false,false,false] rfl rfl (Qr HT_.out (by kernel_rfl)) (fun _ _ _ h=>h) (Or.inl ⟨by rfl,?_⟩) ?_ ?_
                   rotate_left
                   ·
                    intro w'
                    go_simp
                    with_reducible rfl
                   rotate_left
                   ·
                    simp only [Act.put,List.setIfInBounds_toArray,List.set_cons_zero,List.set_cons_succ,Qp,Qq]
                    rfl
                   refine Qx (i:=13) (N:=some 174) (v:=?_) (a':=?_) #[true,true,true,true,true,true,true,true,true,true,true,true,true,true,false,false,false,false,false,false,false,false] rfl rfl (Qr HT_.out (by kernel_rfl)) (fun _ _ _ h=>h) (Or.inl ⟨by rfl,?_⟩) ?_ ?_
                   rotate_left
                   ·
                    intro w'
                    go_simp
                    with_reducible rfl
                   rotate_left
                   ·
                    simp only [Act.put,List.setIfInBounds_toArray,List.set_cons_zero,List.set_cons_succ,Qp,Qq]
                    rfl
                   refine Qx (i:=14) (N:=some 175) (v:=?_) (a':=?_) #[true,true,true,true,true,true,true,true,true,true,true,true,true,true,true,false,false,false,false,false,false,false] rfl rfl (Qr HT_.out (by kernel_rfl)) (fun _ _ _ h=>h) (Or.inl ⟨by rfl,?_⟩) ?_ ?_
                   rotate_left
                   ·
                    intro w'
                    go_simp
                    with_reducible rfl
                   rotate_left
                   ·
                    simp only [Act.put,List.setIfInBounds_toArray,List.set_cons_zero,List.set_cons_succ,Qp,Qq]
                    rfl
                   refine Qx (i:=15) (N:=some 176) (v:=?_) (a':=?_) #[true,true,true,true,true,true,true,true,true,true,true,true,true,true,true,true,false,false,false,false,false,false] rfl rfl (Qr HT_.out (by kernel_rfl)) (fun _ _ _ h=>h) (Or.inl ⟨by rfl,?_⟩) ?_ ?_
                   rotate_left
                   ·
                    intro w'
                    go_simp
                    with_reducible rfl
                   rotate_left
                   ·
                    simp only [Act.put,List.setIfInBounds_toArray,List.set_cons_zero,List.set_cons_succ,Qp,Qq]
                    rfl
                   refine Qx (i:=16) (N:=some 177) (v:=?_) (a':=?_) #[true,true,true,true,true,true,true,true,true,true,true,true,true,true,true,true,true,false,false,false,false,false] rfl rfl (Qr HT_.out (by kernel_rfl)) (fun _ _ _ h=>h) (Or.inl ⟨by rfl,?_⟩) ?_ ?_
                   rotate_left
                   ·
                    intro w'
                    go_simp
                    with_reducible rfl
                   rotate_left
                   ·
                    simp only [Act.put,List.setIfInBounds_toArray,List.set_cons_zero,List.set_cons_succ,Qp,Qq]
                    rfl
                   refine JG (i:=17) (N:=some 178) (v:=?_) (a':=?_) #[true,true,true,true,true,true,true,true,true,true,true,true,true,true,true,true,true,true,false,false,false,false] rfl rfl (Z8 HT_.out HW_.out (by kernel_rfl)) (fun _ _ _ h=>h) (Or.inl ⟨by rfl,?_⟩) hHeld ?_ ?_
                   rotate_left
                   ·
                    rintro w' ⟨s0,s1,s2,s3⟩
                    go_simp
                    with_reducible rfl
                   rotate_left
                   ·
                    simp only [Act.put,List.setIfInBounds_toArray,List.set_cons_zero,List.set_cons_succ,Qp,Qq]
                    rfl
                   refine one_ (i:=18) (N:=some 179) #[true,true,true,true,true,true,true,true,true,true,true,true,true,true,true,true,true,true,true,false,false,false] rfl rfl (JE HT_.out (by kernel_rfl)) (by decide) (fun K hK => ?_);refine Kv Try.func43 (by kernel_rfl) rfl #[.int .i64 100,.int .i64 100] (by rfl) rfl rfl (by (try simp only [List.map_toArray,List.map_cons,List.map_nil]);first|done|rfl|(simp only [List.length_drop,List.length_take];rfl)) ?_
                   with_reducible refine (Qt.calls 100 100 qj2 qj3 _ A79.out).mono ?_
                   rintro e w84 ⟨rfl,hb⟩;have HS0_:=(hb.cell (World.block_lt_of_cell? _ _ (hHeld.1))).trans (hHeld.1);have HS1_:=(hb.cell (World.block_lt_of_cell? _ _ (hHeld.2.1))).trans (hHeld.2.1);have HS2_:=(hb.cell (World.block_lt_of_cell? _ _ (hHeld.2.2.1))).trans (hHeld.2.2.1);have HS3_:=(hb.cell (World.block_lt_of_cell? _ _ (hHeld.2.2.2))).trans (hHeld.2.2.2);refine ⟨_,rfl,?_⟩;have n0_:=Q0.mk (Kd.V_below (by (with_reducible repeat (first|apply Kd.V_alloc|apply Kd.V_drewN|apply Kd.V_drew));exact HO_7.out) hb);have n1_:=Q0.mk (Kd.R_below (by (with_reducible repeat (first|apply Kd.R_alloc|apply Kd.R_drewN|apply Kd.R_drew));exact HO_9.out) hb);have n2_:=Q0.mk (Kd.V_below (by (with_reducible repeat (first|apply Kd.V_alloc|apply Kd.V_drewN|apply Kd.V_drew));exact HO_14.out) hb);have n3_:=Q0.mk (Qi (by repeat (first|(with_reducible first|exact HB.out|apply Q2|apply Q1|apply Q4)|exact HB.out)) hb);clear HO_7 HO_9 HO_14 HB;have HO_7:=n0_;have HO_9:=n1_;have HO_14:=n2_;have HB:=n3_;clear n0_ n1_ n2_ n3_
                   (try clear hb)
                   (try clear hb2)
                   (try clear hk)
                   (try clear hi)
                   refine hK.out _ _ ⟨HS0_,HS1_,HS2_,HS3_⟩ (fun hHeld => ?_);clear hK K;refine Jr (a':=?_) ?_ ?_
                   rotate_left
                   ·
                    show Act.put _ (some 179) _=_
                    simp only [Act.put,List.setIfInBounds_toArray,List.set_cons_zero,List.set_cons_succ,Qp,Qq]
                    rfl
                   refine Qx (i:=19) (N:=some 180) (v:=?_) (a':=?_) #[true,true,true,true,true,true,true,true,true,true,true,true,true,true,true,true,true,true,true,true,false,false] rfl rfl (Qr HT_.out (by kernel_rfl)) (fun _ _ _ h=>h) (Or.inl ⟨by rfl,?_⟩) ?_ ?_
                   rotate_left
                   ·
                    intro w'
                    go_simp
                    with_reducible rfl
                   rotate_left
                   ·
                    simp only [Act.put,List.setIfInBounds_toArray,List.set_cons_zero,List.set_cons_succ,Qp,Qq]
                    rfl
                   refine Qx (i:=20) (N:=some 181) (v:=?_) (a':=?_) #[true,true,true,true,true,true,true,true,true,true,true,true,true,true,true,true,true,true,true,true,true,false] rfl rfl (Qr HT_.out (by kernel_rfl)) (fun _ _ _ h=>h) (Or.inl ⟨by rfl,?_⟩) ?_ ?_
                   rotate_left
                   ·
                    intro w'
                    go_simp
                    with_reducible rfl
                   rotate_left
                   ·
                    simp only [Act.put,List.setIfInBounds_toArray,List.set_cons_zero,List.set_cons_succ,Qp,Qq]
                    rfl
                   refine Qx (i:=21) (N:=some 182) (v:=?_) (a':=?_) #[true,true,true,true,true,true,true,true,true,true,true,true,true,true,true,true,true,true,true,true,true,true] rfl rfl (Qr HT_.out (by kernel_rfl)) (fun _ _ _ h=>h) (Or.inl ⟨by rfl,?_⟩) ?_ ?_
                   rotate_left
                   ·
                    intro w'
                    go_simp
                    with_reducible rfl
                   rotate_left
                   ·
                    simp only [Act.put,List.setIfInBounds_toArray,List.set_cons_zero,List.set_cons_succ,Qp,Qq]
                    rfl
                   refine OC (Gi HT_.out (by kernel_rfl)) ?_
                   try go_wp2
                   go_ret
                   exact ⟨by first|rfl|(simp [Qv,Qw]<;>rfl)|(simp [*,Qv,Qw]<;>rfl),by repeat (first|(with_reducible first|exact HB.out|apply Q2|apply Q1|apply Q4)|exact HB.out)⟩
                  as_aux_lemma =>
                  rw [if_neg c80] at H
                  have c80b0:(!(((Qs YQ QF).f0)==qj2)||(!(((Qs YQ QF).f1)==qj3)))=false:=by simpa using c80
                  clear c80;have H':=Q0.mk H;clear H
                  try go_wp2
                  have n0_:=Q0.mk (Kd.V_drew HO_7.out);have n1_:=Q0.mk (Kd.R_drew HO_9.out);have n2_:=Q0.mk (Kd.V_drew HO_14.out);have n3_:=Q0.mk (Q4 HB.out);clear HO_7 HO_9 HO_14 HB;have HO_7:=n0_;have HO_9:=n1_;have HO_14:=n2_;have HB:=n3_;clear n0_ n1_ n2_ n3_;obtain ⟨qDR,qD4,qrV⟩:=Kd.V_slice HO_7.out
                  (first|subst qrV|(injection qrV with f1_ f2_ f3_;have f4_:=f1_.symm;have f5_:=f3_.symm;clear f1_ f2_ f3_;subst f4_;subst f5_))
                  have Xn:0≤(QF:Int):=of_decide_eq_true (by first|(with_reducible assumption)|assumption);have Xq:QF<(YQ.length:Int):=of_decide_eq_true (by first|(with_reducible assumption)|assumption);obtain ⟨Gx,qgG,KG,KH⟩:=JM (Kd.V_reads' HO_7.out).2.2 QF Xn Xq;cases qgG;replace Xn:=eq_true Xn;replace Xq:=eq_true Xq;have qg7:0≤(QF:Int):=of_decide_eq_true (by first|(with_reducible assumption)|assumption);have qhk:QF<(YQ.length:Int):=of_decide_eq_true (by first|(with_reducible assumption)|assumption);obtain ⟨qkI,qpL,qau,qav⟩:=JM (Kd.V_reads' HO_7.out).2.2 QF qg7 qhk;obtain rfl:Gx=qkI:=(by injection qpL);replace qg7:=eq_true qg7;replace qhk:=eq_true qhk;refine Kr (n:=22) (S:=fun w'=>w'.cell? (Gx.add ((QF).toNat*2))=some (.int .i64 ((Qs YQ QF).f0))∧w'.cell? ⟨(Gx.add ((QF).toNat*2)).block,(Gx.add ((QF).toNat*2)).off+1,none⟩=some (.int .i64 ((Qs YQ QF).f1))∧w'.cell? (Gx.add ((QF).toNat*2))=some (.int .i64 ((Qs YQ QF).f0))∧w'.cell? ⟨(Gx.add ((QF).toNat*2)).block,(Gx.add ((QF).toNat*2)).off+1,none⟩=some (.int .i64 ((Qs YQ QF).f1))) (ds:=[]) #[false,false,false,false,false,false,false,false,false,false,false,false,false,false,false,false,false,false,false,false,false,false] (by kernel_rfl) rfl rfl ⟨KG,KH,qau,qav⟩ (fun hHeld => ?_);refine JC Q9.tab29 Q9.bits29 (fun HT_ HW_ => ?_)
                  generalize wc.drew=w85 at HO_7 HO_9 HO_14 HB KG KH qau qav hHeld ⊢
                  refine Qx (i:=0) (N:=some 161) (v:=?_) (a':=?_) #[true,false,false,false,false,false,false,false,false,false,false,false,false,false,false,false,false,false,false,false,false,false] rfl rfl (Qr HT_.out (by kernel_rfl)) (fun _ _ _ h=>h) (Or.inl ⟨by rfl,?_⟩) ?_ ?_
                  rotate_left
                  ·
                   intro w'
                   go_simp
                   with_reducible rfl
                  rotate_left
                  ·
                   simp only [Act.put,List.setIfInBounds_toArray,List.set_cons_zero,List.set_cons_succ,Qp,Qq]
                   rfl
                  refine Qx (i:=1) (N:=some 162) (v:=?_) (a':=?_) #[true,true,false,false,false,false,false,false,false,false,false,false,false,false,false,false,false,false,false,false,false,false] rfl rfl (Qr HT_.out (by kernel_rfl)) (fun _ _ _ h=>h) (Or.inl ⟨by rfl,?_⟩) ?_ ?_
                  rotate_left
                  ·
                   intro w'
                   go_simp
                   with_reducible rfl
                  rotate_left
                  ·
                   simp only [Act.put,List.setIfInBounds_toArray,List.set_cons_zero,List.set_cons_succ,Qp,Qq]
                   rfl
                  refine Qx (i:=2) (N:=some 163) (v:=?_) (a':=?_) #[true,true,true,false,false,false,false,false,false,false,false,false,false,false,false,false,false,false,false,false,false,false] rfl rfl (Qr HT_.out (by kernel_rfl)) (fun _ _ _ h=>h) (Or.inl ⟨by rfl,?_⟩) ?_ ?_
                  rotate_left
                  ·
                   intro w'
                   go_simp
                   with_reducible rfl
                  rotate_left
                  ·
                   simp only [Act.put,List.setIfInBounds_toArray,List.set_cons_zero,List.set_cons_succ,Qp,Qq]
                   rfl
                  refine Qx (i:=3) (N:=some 164) (v:=?_) (a':=?_) #[true,true,true,true,false,false,false,false,false,false,false,false,false,false,false,false,false,false,false,false,false,false] rfl rfl (Qr HT_.out (by kernel_rfl)) (fun _ _ _ h=>h) (Or.inl ⟨by rfl,?_⟩) ?_ ?_
                  rotate_left
                  ·
                   intro w'
                   go_simp
                   with_reducible rfl
                  rotate_left
                  ·
                   simp only [Act.put,List.setIfInBounds_toArray,List.set_cons_zero,List.set_cons_succ,Qp,Qq]
                   rfl
                  refine Qx (i:=4) (N:=some 165) (v:=?_) (a':=?_) #[true,true,true,true,true,false,false,false,false,false,false,false,false,false,false,false,false,false,false,false,false,false] rfl rfl (Qr HT_.out (by kernel_rfl)) (fun _ _ _ h=>h) (Or.inl ⟨by rfl,?_⟩) ?_ ?_
                  rotate_left
                  ·
                   intro w'
                   go_simp
                   with_reducible rfl
                  rotate_left
                  ·
                   simp only [Act.put,List.setIfInBounds_toArray,List.set_cons_zero,List.set_cons_succ,Qp,Qq]
                   rfl
                  refine Qx (i:=5) (N:=some 166) (v:=?_) (a':=?_) #[true,true,true,true,true,true,false,false,false,false,false,false,false,false,false,false,false,false,false,false,false,false] rfl rfl (Qr HT_.out (by kernel_rfl)) (fun _ _ _ h=>h) (Or.inl ⟨by rfl,?_⟩) ?_ ?_
                  rotate_left
                  ·
                   intro w'
                   go_simp
                   with_reducible rfl
                  rotate_left
                  ·
                   simp only [Act.put,List.setIfInBounds_toArray,List.set_cons_zero,List.set_cons_succ,Qp,Qq]
                   rfl
                  refine JG (i:=6) (N:=some 167) (v:=?_) (a':=?_) #[true,true,true,true,true,true,true,false,false,false,false,false,false,false,false,false,false,false,false,false,false,false] rfl rfl (Z8 HT_.out HW_.out (by kernel_rfl)) (fun _ _ _ h=>h) (Or.inl ⟨by rfl,?_⟩) hHeld ?_ ?_
                  rotate_left
                  ·
                   rintro w' ⟨s0,s1,s2,s3⟩
                   go_simp
                   with_reducible rfl
                  rotate_left
                  ·
                   simp only [Act.put,List.setIfInBounds_toArray,List.set_cons_zero,List.set_cons_succ,Qp,Qq]
                   rfl
                  refine one_ (i:=7) (N:=some 168) #[true,true,true,true,true,true,true,true,false,false,false,false,false,false,false,false,false,false,false,false,false,false] rfl rfl (JE HT_.out (by kernel_rfl)) (by decide) (fun K hK => ?_);refine Kv Try.func43 (by kernel_rfl) rfl #[.int .i64 0,.int .i64 100] (by rfl) rfl rfl (by (try simp only [List.map_toArray,List.map_cons,List.map_nil]);first|done|rfl|(simp only [List.length_drop,List.length_take];rfl)) ?_
                  with_reducible refine (Qt.calls 0 100 qgk qgl _ A73.out).mono ?_
                  rintro e w87 ⟨rfl,hb⟩;have HS0_:=(hb.cell (World.block_lt_of_cell? _ _ (hHeld.1))).trans (hHeld.1);have HS1_:=(hb.cell (World.block_lt_of_cell? _ _ (hHeld.2.1))).trans (hHeld.2.1);have HS2_:=(hb.cell (World.block_lt_of_cell? _ _ (hHeld.2.2.1))).trans (hHeld.2.2.1);have HS3_:=(hb.cell (World.block_lt_of_cell? _ _ (hHeld.2.2.2))).trans (hHeld.2.2.2);refine ⟨_,rfl,?_⟩;have n0_:=Q0.mk (Kd.V_below (by (with_reducible repeat (first|apply Kd.V_alloc|apply Kd.V_drewN|apply Kd.V_drew));exact HO_7.out) hb);have n1_:=Q0.mk (Kd.R_below (by (with_reducible repeat (first|apply Kd.R_alloc|apply Kd.R_drewN|apply Kd.R_drew));exact HO_9.out) hb);have n2_:=Q0.mk (Kd.V_below (by (with_reducible repeat (first|apply Kd.V_alloc|apply Kd.V_drewN|apply Kd.V_drew));exact HO_14.out) hb);have n3_:=Q0.mk (Qi (by repeat (first|(with_reducible first|exact HB.out|apply Q2|apply Q1|apply Q4)|exact HB.out)) hb);clear HO_7 HO_9 HO_14 HB;have HO_7:=n0_;have HO_9:=n1_;have HO_14:=n2_;have HB:=n3_;clear n0_ n1_ n2_ n3_
                  (try clear hb)
                  (try clear hb2)
                  (try clear hk)
                  (try clear hi)
                  refine hK.out _ _ ⟨HS0_,HS1_,HS2_,HS3_⟩ (fun hHeld => ?_);clear hK K;refine Jr (a':=?_) ?_ ?_
                  rotate_left
                  ·
                   show Act.put _ (some 168) _=_
                   simp only [Act.put,List.setIfInBounds_toArray,List.set_cons_zero,List.set_cons_succ,Qp,Qq]
                   rfl
                  refine Qx (i:=8) (N:=some 169) (v:=?_) (a':=?_) #[true,true,true,true,true,true,true,true,true,false,false,false,false,false,false,false,false,false,false,false,false,false] rfl rfl (Qr HT_.out (by kernel_rfl)) (fun _ _ _ h=>h) (Or.inl ⟨by rfl,?_⟩) ?_ ?_
                  rotate_left
                  ·
                   intro w'
                   go_simp
                   with_reducible rfl
                  rotate_left
                  ·
                   simp only [Act.put,List.setIfInBounds_toArray,List.set_cons_zero,List.set_cons_succ,Qp,Qq]
                   rfl
                  refine Qx (i:=9) (N:=some 170) (v:=?_) (a':=?_) #[true,true,true,true,true,true,true,true,true,true,false,false,false,false,false,false,false,false,false,false,false,false] rfl rfl (Qr HT_.out (by kernel_rfl)) (fun _ _ _ h=>h) (Or.inl ⟨by rfl,?_⟩) ?_ ?_
                  rotate_left
                  ·
                   intro w'
                   go_simp
                   with_reducible rfl
                  rotate_left
                  ·
                   simp only [Act.put,List.setIfInBounds_toArray,List.set_cons_zero,List.set_cons_succ,Qp,Qq]
                   rfl
                  refine Qx (i:=10) (N:=some 171) (v:=?_) (a':=?_) #[true,true,true,true,true,true,true,true,true,true,true,false,false,false,false,false,false,false,false,false,false,false] rfl rfl (Qr HT_.out (by kernel_rfl)) (fun _ _ _ h=>h) (Or.inl ⟨by rfl,?_⟩) ?_ ?_
                  rotate_left
                  ·
                   intro w'
                   go_simp
                   with_reducible rfl
                  rotate_left
                  ·
                   simp only [Act.put,List.setIfInBounds_toArray,List.set_cons_zero,List.set_cons_succ,Qp,Qq]
                   rfl
                  refine Qx (i:=11) (N:=some 172) (v:=?_) (a':=?_) #[true,true,true,true,true,true,true,true,true,true,true,true,false,false,false,false,false,false,false,false,false,false] rfl rfl (Qr HT_.out (by kernel_rfl)) (fun _ _ _ h=>h) (Or.inl ⟨by rfl,?_⟩) ?_ ?_
                  rotate_left
                  ·
                   intro w'
                   go_simp
                   with_reducible rfl
                  rotate_left
                  ·
                   simp only [Act.put,List.setIfInBounds_toArray,List.set_cons_zero,List.set_cons_succ,Qp,Qq]
                   rfl
                  refine Qx (i:=12) (N:=some 173) (v:=?_) (a':=?_) #[true,true,true,true,true,true,true,true,true,true,true,true,true,false,false,false,false,false,false,false,false,false] rfl rfl (Qr HT_.out (by kernel_rfl)) (fun _ _ _ h=>h) (Or.inl ⟨by rfl,?_⟩) ?_ ?_
                  rotate_left
                  ·
                   intro w'
                   go_simp
                   with_reducible rfl
                  rotate_left
                  ·
                   simp only [Act.put,List.setIfInBounds_toArray,List.set_cons_zero,List.set_cons_succ,Qp,Qq]
                   rfl
                  refine Qx (i:=13) (N:=some 174) (v:=?_) (a':=?_) #[true,true,true,true,true,true,true,true,true,true,true,true,true,true,false,false,false,false,false,false,false,false] rfl rfl (Qr HT_.out (by kernel_rfl)) (fun _ _ _ h=>h) (Or.inl ⟨by rfl,?_⟩) ?_ ?_
                  rotate_left
                  ·
                   intro w'
                   go_simp
                   with_reducible rfl
                  rotate_left
                  ·
                   simp only [Act.put,List.setIfInBounds_toArray,List.set_cons_zero,List.set_cons_succ,Qp,Qq]
                   rfl
                  refine Qx (i:=14) (N:=some 175) (v:=?_) (a':=?_) #[true,true,true,true,true,true,true,true,true,true,true,true,true,true,true,false,false,false,false,false,false,false] rfl rfl (Qr HT_.out (by kernel_rfl)) (fun _ _ _ h=>h) (Or.inl ⟨by rfl,?_⟩) ?_ ?_
                  rotate_left
                  ·
                   intro w'
                   go_simp
                   with_reducible rfl
                  rotate_left
                  ·
                   simp only [Act.put,List.setIfInBounds_toArray,List.set_cons_zero,List.set_cons_succ,Qp,Qq]
                   rfl
                  refine Qx (i:=15) (N:=some 176) (v:=?_) (a':=?_) #[true,true,true,true,true,true,true,true,true,true,true,true,true,true,true,true,false,false,false,false,false,false] rfl rfl (Qr HT_.out (by kernel_rfl)) (fun _ _ _ h=>h) (Or.inl ⟨by rfl,?_⟩) ?_ ?_
                  rotate_left
                  ·
                   intro w'
                   go_simp
                   with_reducible rfl
                  rotate_left
                  ·
                   simp only [Act.put,List.setIfInBounds_toArray,List.set_cons_zero,List.set_cons_succ,Qp,Qq]
                   rfl
                  refine Qx (i:=16) (N:=some 177) (v:=?_) (a':=?_) #[true,true,true,true,true,true,true,true,true,true,true,true,true,true,true,true,true,false,false,false,false,false] rfl rfl (Qr HT_.out (by kernel_rfl)) (fun _ _ _ h=>h) (Or.inl ⟨by rfl,?_⟩) ?_ ?_
                  rotate_left
                  ·
                   intro w'
                   go_simp
                   with_reducible rfl
                  rotate_left
                  ·
                   simp only [Act.put,List.setIfInBounds_toArray,List.set_cons_zero,List.set_cons_succ,Qp,Qq]
                   rfl
                  refine JG (i:=17) (N:=some 178) (v:=?_) (a':=?_) #[true,true,true,true,true,true,true,true,true,true,true,true,true,true,true,true,true,true,false,false,false,false] rfl rfl (Z8 HT_.out HW_.out (by kernel_rfl)) (fun _ _ _ h=>h) (Or.inl ⟨by rfl,?_⟩) hHeld ?_ ?_
                  rotate_left
                  ·
                   rintro w' ⟨s0,s1,s2,s3⟩
                   go_simp
                   with_reducible rfl
                  rotate_left
                  ·
                   simp only [Act.put,List.setIfInBounds_toArray,List.set_cons_zero,List.set_cons_succ,Qp,Qq]
                   rfl
                  refine one_ (i:=18) (N:=some 179) #[true,true,true,true,true,true,true,true,true,true,true,true,true,true,true,true,true,true,true,false,false,false] rfl rfl (JE HT_.out (by kernel_rfl)) (by decide) (fun K hK => ?_);refine Kv Try.func43 (by kernel_rfl) rfl #[.int .i64 100,.int .i64 100] (by rfl) rfl rfl (by (try simp only [List.map_toArray,List.map_cons,List.map_nil]);first|done|rfl|(simp only [List.length_drop,List.length_take];rfl)) ?_
                  with_reducible refine (Qt.calls 100 100 qj2 qj3 _ A79.out).mono ?_
                  rintro e w88 ⟨rfl,hb⟩;have HS0_:=(hb.cell (World.block_lt_of_cell? _ _ (hHeld.1))).trans (hHeld.1);have HS1_:=(hb.cell (World.block_lt_of_cell? _ _ (hHeld.2.1))).trans (hHeld.2.1);have HS2_:=(hb.cell (World.block_lt_of_cell? _ _ (hHeld.2.2.1))).trans (hHeld.2.2.1);have HS3_:=(hb.cell (World.block_lt_of_cell? _ _ (hHeld.2.2.2))).trans (hHeld.2.2.2);refine ⟨_,rfl,?_⟩;have n0_:=Q0.mk (Kd.V_below (by (with_reducible repeat (first|apply Kd.V_alloc|apply Kd.V_drewN|apply Kd.V_drew));exact HO_7.out) hb);have n1_:=Q0.mk (Kd.R_below (by (with_reducible repeat (first|apply Kd.R_alloc|apply Kd.R_drewN|apply Kd.R_drew));exact HO_9.out) hb);have n2_:=Q0.mk (Kd.V_below (by (with_reducible repeat (first|apply Kd.V_alloc|apply Kd.V_drewN|apply Kd.V_drew));exact HO_14.out) hb);have n3_:=Q0.mk (Qi (by repeat (first|(with_reducible first|exact HB.out|apply Q2|apply Q1|apply Q4)|exact HB.out)) hb);clear HO_7 HO_9 HO_14 HB;have HO_7:=n0_;have HO_9:=n1_;have HO_14:=n2_;have HB:=n3_;clear n0_ n1_ n2_ n3_
                  (try clear hb)
                  (try clear hb2)
                  (try clear hk)
                  (try clear hi)
                  refine hK.out _ _ ⟨HS0_,HS1_,HS2_,HS3_⟩ (fun hHeld => ?_);clear hK K;refine Jr (a':=?_) ?_ ?_
                  rotate_left
                  ·
                   show Act.put _ (some 179) _=_
                   simp only [Act.put,List.setIfInBounds_toArray,List.set_cons_zero,List.set_cons_succ,Qp,Qq]
                   rfl
                  refine Qx (i:=19) (N:=some 180) (v:=?_) (a':=?_) #[true,true,true,true,true,true,true,true,true,true,true,true,true,true,true,true,true,true,true,true,false,false] rfl rfl (Qr HT_.out (by kernel_rfl)) (fun _ _ _ h=>h) (Or.inl ⟨by rfl,?_⟩) ?_ ?_
                  rotate_left
                  ·
                   intro w'
                   go_simp
                   with_reducible rfl
                  rotate_left
                  ·
                   simp only [Act.put,List.setIfInBounds_toArray,List.set_cons_zero,List.set_cons_succ,Qp,Qq]
                   rfl
                  refine Qx (i:=20) (N:=some 181) (v:=?_) (a':=?_) #[true,true,true,true,true,true,true,true,true,true,true,true,true,true,true,true,true,true,true,true,true,false] rfl rfl (Qr HT_.out (by kernel_rfl)) (fun _ _ _ h=>h) (Or.inl ⟨by rfl,?_⟩) ?_ ?_
                  rotate_left
                  ·
                   intro w'
                   go_simp
                   with_reducible rfl
                  rotate_left
                  ·
                   simp only [Act.put,List.setIfInBounds_toArray,List.set_cons_zero,List.set_cons_succ,Qp,Qq]
                   rfl
                  refine Qx (i:=21) (N:=some 182) (v:=?_) (a':=?_) #[true,true,true,true,true,true,true,true,true,true,true,true,true,true,true,true,true,true,true,true,true,true] rfl rfl (Qr HT_.out (by kernel_rfl)) (fun _ _ _ h=>h) (Or.inl ⟨by rfl,?_⟩) ?_ ?_
                  rotate_left
                  ·
                   intro w'
                   go_simp
                   with_reducible rfl
                  rotate_left
                  ·
                   simp only [Act.put,List.setIfInBounds_toArray,List.set_cons_zero,List.set_cons_succ,Qp,Qq]
                   rfl
                  refine OC (Gi HT_.out (by kernel_rfl)) ?_
                  try go_wp2
                  go_roundg qbm
                  case measure=>have:=HJ2.out;have:=Wh.out;have:=HK3.out;have:=qcO.out;have:=HK5.out;have:=qeU.out;omega
                  case rel=>exact ⟨(wrap64 (QF+1)),(by first|rfl|(simp;done)|(simp [*];done)),H',⟨by have:=HJ2.out;have:=Wh.out;have:=HK3.out;have:=qcO.out;have:=HK5.out;have:=qeU.out;omega⟩,⟨by (with_reducible repeat (first|apply Kd.V_alloc|apply Kd.V_drewN|apply Kd.V_drew));exact HO_7.out⟩,⟨by (with_reducible repeat (first|apply Kd.R_alloc|apply Kd.R_drewN|apply Kd.R_drew));exact HO_9.out⟩,⟨by (with_reducible repeat (first|apply Kd.V_alloc|apply Kd.V_drewN|apply Kd.V_drew));exact HO_14.out⟩,⟨by repeat (first|(with_reducible first|exact HB.out|apply Q2|apply Q1|apply Q4)|exact HB.out)⟩⟩
                 as_aux_lemma =>
                 rw [if_neg c78] at H;have c78b0:((l0.length:Int)==1)=false:=beq_eq_false_iff_ne.mpr c78;have c78b1:((l0.length:Int) != 1)=true:=bne_iff_ne.mpr c78;have H':=Q0.mk H;clear H
                 try go_wp2
                 have n0_:=Q0.mk (Kd.V_drew HO_7.out);have n1_:=Q0.mk (Kd.R_drew HO_9.out);have n2_:=Q0.mk (Kd.V_drew HO_14.out);have n3_:=Q0.mk (Q4 HB.out);clear HO_7 HO_9 HO_14 HB;have HO_7:=n0_;have HO_9:=n1_;have HO_14:=n2_;have HB:=n3_;clear n0_ n1_ n2_ n3_;obtain ⟨qDS,qD5,qrW⟩:=Kd.V_slice HO_7.out
                 (first|subst qrW|(injection qrW with f1_ f2_ f3_;have f4_:=f1_.symm;have f5_:=f3_.symm;clear f1_ f2_ f3_;subst f4_;subst f5_))
                 have Xn:0≤(QF:Int):=of_decide_eq_true (by first|(with_reducible assumption)|assumption);have Xq:QF<(YQ.length:Int):=of_decide_eq_true (by first|(with_reducible assumption)|assumption);obtain ⟨Gx,qgG,KG,KH⟩:=JM (Kd.V_reads' HO_7.out).2.2 QF Xn Xq;cases qgG;replace Xn:=eq_true Xn;replace Xq:=eq_true Xq;refine Kr (n:=22) (S:=fun w'=>w'.cell? (Gx.add ((QF).toNat*2))=some (.int .i64 ((Qs YQ QF).f0))∧w'.cell? ⟨(Gx.add ((QF).toNat*2)).block,(Gx.add ((QF).toNat*2)).off+1,none⟩=some (.int .i64 ((Qs YQ QF).f1))) (ds:=[]) #[false,false,false,false,false,false,false,false,false,false,false,false,false,false,false,false,false,false,false,false,false,false] (by kernel_rfl) rfl rfl ⟨KG,KH⟩ (fun hHeld => ?_);refine JC Q9.tab29 Q9.bits29 (fun HT_ HW_ => ?_)
                 generalize wc.drew=w89 at HO_7 HO_9 HO_14 HB KG KH hHeld ⊢
                 refine Qx (i:=0) (N:=some 161) (v:=?_) (a':=?_) #[true,false,false,false,false,false,false,false,false,false,false,false,false,false,false,false,false,false,false,false,false,false] rfl rfl (Qr HT_.out (by kernel_rfl)) (fun _ _ _ h=>h) (Or.inl ⟨by rfl,?_⟩) ?_ ?_
                 rotate_left
                 ·
                  intro w'
                  go_simp
                  with_reducible rfl
                 rotate_left
                 ·
                  simp only [Act.put,List.setIfInBounds_toArray,List.set_cons_zero,List.set_cons_succ,Qp,Qq]
                  rfl
                 refine Qx (i:=1) (N:=some 162) (v:=?_) (a':=?_) #[true,true,false,false,false,false,false,false,false,false,false,false,false,false,false,false,false,false,false,false,false,false] rfl rfl (Qr HT_.out (by kernel_rfl)) (fun _ _ _ h=>h) (Or.inl ⟨by rfl,?_⟩) ?_ ?_
                 rotate_left
                 ·
                  intro w'
                  go_simp
                  with_reducible rfl
                 rotate_left
                 ·
                  simp only [Act.put,List.setIfInBounds_toArray,List.set_cons_zero,List.set_cons_succ,Qp,Qq]
                  rfl
                 refine Qx (i:=2) (N:=some 163) (v:=?_) (a':=?_) #[true,true,true,false,false,false,false,false,false,false,false,false,false,false,false,false,false,false,false,false,false,false] rfl rfl (Qr HT_.out (by kernel_rfl)) (fun _ _ _ h=>h) (Or.inl ⟨by rfl,?_⟩) ?_ ?_
                 rotate_left
                 ·
                  intro w'
                  go_simp
                  with_reducible rfl
                 rotate_left
                 ·
                  simp only [Act.put,List.setIfInBounds_toArray,List.set_cons_zero,List.set_cons_succ,Qp,Qq]
                  rfl
                 refine Qx (i:=3) (N:=some 164) (v:=?_) (a':=?_) #[true,true,true,true,false,false,false,false,false,false,false,false,false,false,false,false,false,false,false,false,false,false] rfl rfl (Qr HT_.out (by kernel_rfl)) (fun _ _ _ h=>h) (Or.inl ⟨by rfl,?_⟩) ?_ ?_
                 rotate_left
                 ·
                  intro w'
                  go_simp
                  with_reducible rfl
                 rotate_left
                 ·
                  simp only [Act.put,List.setIfInBounds_toArray,List.set_cons_zero,List.set_cons_succ,Qp,Qq]
                  rfl
                 refine Qx (i:=4) (N:=some 165) (v:=?_) (a':=?_) #[true,true,true,true,true,false,false,false,false,false,false,false,false,false,false,false,false,false,false,false,false,false] rfl rfl (Qr HT_.out (by kernel_rfl)) (fun _ _ _ h=>h) (Or.inl ⟨by rfl,?_⟩) ?_ ?_
                 rotate_left
                 ·
                  intro w'
                  go_simp
                  with_reducible rfl
                 rotate_left
                 ·
                  simp only [Act.put,List.setIfInBounds_toArray,List.set_cons_zero,List.set_cons_succ,Qp,Qq]
                  rfl
                 refine Qx (i:=5) (N:=some 166) (v:=?_) (a':=?_) #[true,true,true,true,true,true,false,false,false,false,false,false,false,false,false,false,false,false,false,false,false,false] rfl rfl (Qr HT_.out (by kernel_rfl)) (fun _ _ _ h=>h) (Or.inl ⟨by rfl,?_⟩) ?_ ?_
                 rotate_left
                 ·
                  intro w'
                  go_simp
                  with_reducible rfl
                 rotate_left
                 ·
                  simp only [Act.put,List.setIfInBounds_toArray,List.set_cons_zero,List.set_cons_succ,Qp,Qq]
                  rfl
                 refine JG (i:=6) (N:=some 167) (v:=?_) (a':=?_) #[true,true,true,true,true,true,true,false,false,false,false,false,false,false,false,false,false,false,false,false,false,false] rfl rfl (Z8 HT_.out HW_.out (by kernel_rfl)) (fun _ _ _ h=>h) (Or.inl ⟨by rfl,?_⟩) hHeld ?_ ?_
                 rotate_left
                 ·
                  rintro w' ⟨s0,s1⟩
                  go_simp
                  with_reducible rfl
                 rotate_left
                 ·
                  simp only [Act.put,List.setIfInBounds_toArray,List.set_cons_zero,List.set_cons_succ,Qp,Qq]
                  rfl
                 refine one_ (i:=7) (N:=some 168) #[true,true,true,true,true,true,true,true,false,false,false,false,false,false,false,false,false,false,false,false,false,false] rfl rfl (JE HT_.out (by kernel_rfl)) (by decide) (fun K hK => ?_);refine Kv Try.func43 (by kernel_rfl) rfl #[.int .i64 0,.int .i64 100] (by rfl) rfl rfl (by (try simp only [List.map_toArray,List.map_cons,List.map_nil]);first|done|rfl|(simp only [List.length_drop,List.length_take];rfl)) ?_
                 with_reducible refine (Qt.calls 0 100 qgk qgl _ A73.out).mono ?_
                 rintro e w91 ⟨rfl,hb⟩;have HS0_:=(hb.cell (World.block_lt_of_cell? _ _ (hHeld.1))).trans (hHeld.1);have HS1_:=(hb.cell (World.block_lt_of_cell? _ _ (hHeld.2))).trans (hHeld.2);refine ⟨_,rfl,?_⟩;have n0_:=Q0.mk (Kd.V_below (by (with_reducible repeat (first|apply Kd.V_alloc|apply Kd.V_drewN|apply Kd.V_drew));exact HO_7.out) hb);have n1_:=Q0.mk (Kd.R_below (by (with_reducible repeat (first|apply Kd.R_alloc|apply Kd.R_drewN|apply Kd.R_drew));exact HO_9.out) hb);have n2_:=Q0.mk (Kd.V_below (by (with_reducible repeat (first|apply Kd.V_alloc|apply Kd.V_drewN|apply Kd.V_drew));exact HO_14.out) hb);have n3_:=Q0.mk (Qi (by repeat (first|(with_reducible first|exact HB.out|apply Q2|apply Q1|apply Q4)|exact HB.out)) hb);clear HO_7 HO_9 HO_14 HB;have HO_7:=n0_;have HO_9:=n1_;have HO_14:=n2_;have HB:=n3_;clear n0_ n1_ n2_ n3_
                 (try clear hb)
                 (try clear hb2)
                 (try clear hk)
                 (try clear hi)
                 refine hK.out _ _ ⟨HS0_,HS1_⟩ (fun hHeld => ?_);clear hK K;refine Jr (a':=?_) ?_ ?_
                 rotate_left
                 ·
                  show Act.put _ (some 168) _=_
                  simp only [Act.put,List.setIfInBounds_toArray,List.set_cons_zero,List.set_cons_succ,Qp,Qq]
                  rfl
                 refine Qx (i:=8) (N:=some 169) (v:=?_) (a':=?_) #[true,true,true,true,true,true,true,true,true,false,false,false,false,false,false,false,false,false,false,false,false,false] rfl rfl (Qr HT_.out (by kernel_rfl)) (fun _ _ _ h=>h) (Or.inl ⟨by rfl,?_⟩) ?_ ?_
                 rotate_left
                 ·
                  intro w'
                  go_simp
                  with_reducible rfl
                 rotate_left
                 ·
                  simp only [Act.put,List.setIfInBounds_toArray,List.set_cons_zero,List.set_cons_succ,Qp,Qq]
                  rfl
                 refine Qx (i:=9) (N:=some 170) (v:=?_) (a':=?_) #[true,true,true,true,true,true,true,true,true,true,false,false,false,false,false,false,false,false,false,false,false,false] rfl rfl (Qr HT_.out (by kernel_rfl)) (fun _ _ _ h=>h) (Or.inl ⟨by rfl,?_⟩) ?_ ?_
                 rotate_left
                 ·
                  intro w'
                  go_simp
                  with_reducible rfl
                 rotate_left
                 ·
                  simp only [Act.put,List.setIfInBounds_toArray,List.set_cons_zero,List.set_cons_succ,Qp,Qq]
                  rfl
                 refine Qx (i:=10) (N:=some 171) (v:=?_) (a':=?_) #[true,true,true,true,true,true,true,true,true,true,true,false,false,false,false,false,false,false,false,false,false,false] rfl rfl (Qr HT_.out (by kernel_rfl)) (fun _ _ _ h=>h) (Or.inl ⟨by rfl,?_⟩) ?_ ?_
                 rotate_left
                 ·
                  intro w'
                  go_simp
                  with_reducible rfl
                 rotate_left
                 ·
                  simp only [Act.put,List.setIfInBounds_toArray,List.set_cons_zero,List.set_cons_succ,Qp,Qq]
                  rfl
                 refine Qx (i:=11) (N:=some 172) (v:=?_) (a':=?_) #[true,true,true,true,true,true,true,true,true,true,true,true,false,false,false,false,false,false,false,false,false,false] rfl rfl (Qr HT_.out (by kernel_rfl)) (fun _ _ _ h=>h) (Or.inl ⟨by rfl,?_⟩) ?_ ?_
                 rotate_left
                 ·
                  intro w'
                  go_simp
                  with_reducible rfl
                 rotate_left
                 ·
                  simp only [Act.put,List.setIfInBounds_toArray,List.set_cons_zero,List.set_cons_succ,Qp,Qq]
                  rfl
                 refine Qx (i:=12) (N:=some 173) (v:=?_) (a':=?_) #[true,true,true,true,true,true,true,true,true,true,true,true,true,false,false,false,false,false,false,false,false,false] rfl rfl (Qr HT_.out (by kernel_rfl)) (fun _ _ _ h=>h) (Or.inl ⟨by rfl,?_⟩) ?_ ?_
                 rotate_left
                 ·
                  intro w'
                  go_simp
                  with_reducible rfl
                 rotate_left
                 ·
                  simp only [Act.put,List.setIfInBounds_toArray,List.set_cons_zero,List.set_cons_succ,Qp,Qq]
                  rfl
                 refine Qx (i:=13) (N:=some 174) (v:=?_) (a':=?_) #[true,true,true,true,true,true,true,true,true,true,true,true,true,true,false,false,false,false,false,false,false,false] rfl rfl (Qr HT_.out (by kernel_rfl)) (fun _ _ _ h=>h) (Or.inl ⟨by rfl,?_⟩) ?_ ?_
                 rotate_left
                 ·
                  intro w'
                  go_simp
                  with_reducible rfl
                 rotate_left
                 ·
                  simp only [Act.put,List.setIfInBounds_toArray,List.set_cons_zero,List.set_cons_succ,Qp,Qq]
                  rfl
                 refine Qx (i:=14) (N:=some 175) (v:=undef) (a':=?_) #[true,true,true,true,true,true,true,true,true,true,true,true,true,true,true,false,false,false,false,false,false,false] rfl rfl (Qr HT_.out (by kernel_rfl)) (fun _ _ _ h=>h) (Or.inr ⟨by rfl,rfl⟩) ?_ ?_
                 rotate_left
                 ·
                  simp only [Act.put,List.setIfInBounds_toArray,List.set_cons_zero,List.set_cons_succ,Qp,Qq]
                  rfl
                 refine Qx (i:=15) (N:=some 176) (v:=undef) (a':=?_) #[true,true,true,true,true,true,true,true,true,true,true,true,true,true,true,true,false,false,false,false,false,false] rfl rfl (Qr HT_.out (by kernel_rfl)) (fun _ _ _ h=>h) (Or.inr ⟨by rfl,rfl⟩) ?_ ?_
                 rotate_left
                 ·
                  simp only [Act.put,List.setIfInBounds_toArray,List.set_cons_zero,List.set_cons_succ,Qp,Qq]
                  rfl
                 refine Qx (i:=16) (N:=some 177) (v:=undef) (a':=?_) #[true,true,true,true,true,true,true,true,true,true,true,true,true,true,true,true,true,false,false,false,false,false] rfl rfl (Qr HT_.out (by kernel_rfl)) (fun _ _ _ h=>h) (Or.inr ⟨by rfl,rfl⟩) ?_ ?_
                 rotate_left
                 ·
                  simp only [Act.put,List.setIfInBounds_toArray,List.set_cons_zero,List.set_cons_succ,Qp,Qq]
                  rfl
                 refine Qx (i:=17) (N:=some 178) (v:=undef) (a':=?_) #[true,true,true,true,true,true,true,true,true,true,true,true,true,true,true,true,true,true,false,false,false,false] rfl rfl (Qr HT_.out (by kernel_rfl)) (fun _ _ _ h=>h) (Or.inr ⟨by rfl,rfl⟩) ?_ ?_
                 rotate_left
                 ·
                  simp only [Act.put,List.setIfInBounds_toArray,List.set_cons_zero,List.set_cons_succ,Qp,Qq]
                  rfl
                 refine Qx (i:=18) (N:=some 179) (v:=undef) (a':=?_) #[true,true,true,true,true,true,true,true,true,true,true,true,true,true,true,true,true,true,true,false,false,false] rfl rfl (Qr HT_.out (by kernel_rfl)) (fun _ _ _ h=>h) (Or.inr ⟨by rfl,rfl⟩) ?_ ?_
                 rotate_left
                 ·
                  simp only [Act.put,List.setIfInBounds_toArray,List.set_cons_zero,List.set_cons_succ,Qp,Qq]
                  rfl
                 refine Qx (i:=19) (N:=some 180) (v:=undef) (a':=?_) #[true,true,true,true,true,true,true,true,true,true,true,true,true,true,true,true,true,true,true,true,false,false] rfl rfl (Qr HT_.out (by kernel_rfl)) (fun _ _ _ h=>h) (Or.inr ⟨by rfl,rfl⟩) ?_ ?_
                 rotate_left
                 ·
                  simp only [Act.put,List.setIfInBounds_toArray,List.set_cons_zero,List.set_cons_succ,Qp,Qq]
                  rfl
                 refine Qx (i:=20) (N:=some 181) (v:=?_) (a':=?_) #[true,true,true,true,true,true,true,true,true,true,true,true,true,true,true,true,true,true,true,true,true,false] rfl rfl (Qr HT_.out (by kernel_rfl)) (fun _ _ _ h=>h) (Or.inl ⟨by rfl,?_⟩) ?_ ?_
                 rotate_left
                 ·
                  intro w'
                  go_simp
                  with_reducible rfl
                 rotate_left
                 ·
                  simp only [Act.put,List.setIfInBounds_toArray,List.set_cons_zero,List.set_cons_succ,Qp,Qq]
                  rfl
                 refine Qx (i:=21) (N:=some 182) (v:=?_) (a':=?_) #[true,true,true,true,true,true,true,true,true,true,true,true,true,true,true,true,true,true,true,true,true,true] rfl rfl (Qr HT_.out (by kernel_rfl)) (fun _ _ _ h=>h) (Or.inl ⟨by rfl,?_⟩) ?_ ?_
                 rotate_left
                 ·
                  intro w'
                  go_simp
                  with_reducible rfl
                 rotate_left
                 ·
                  simp only [Act.put,List.setIfInBounds_toArray,List.set_cons_zero,List.set_cons_succ,Qp,Qq]
                  rfl
                 refine OC (Gi HT_.out (by kernel_rfl)) ?_
                 try go_wp2
                 go_roundg qbm
                 case measure=>have:=HJ2.out;have:=Wh.out;have:=HK3.out;have:=qcO.out;have:=HK5.out;have:=qeU.out;omega
                 case rel=>exact ⟨(wrap64 (QF+1)),(by first|rfl|(simp;done)|(simp [*];done)),H',⟨by have:=HJ2.out;have:=Wh.out;have:=HK3.out;have:=qcO.out;have:=HK5.out;have:=qeU.out;omega⟩,⟨by (with_reducible repeat (first|apply Kd.V_alloc|apply Kd.V_drewN|apply Kd.V_drew));exact HO_7.out⟩,⟨by (with_reducible repeat (first|apply Kd.R_alloc|apply Kd.R_drewN|apply Kd.R_drew));exact HO_9.out⟩,⟨by (with_reducible repeat (first|apply Kd.V_alloc|apply Kd.V_drewN|apply Kd.V_drew));exact HO_14.out⟩,⟨by repeat (first|(with_reducible first|exact HB.out|apply Q2|apply Q1|apply Q4)|exact HB.out)⟩⟩
                rw [if_neg c72] at H
                exact absurd H (by simp)
               rw [if_neg c71] at H
               exact absurd H (by simp)
              as_aux_lemma =>
              rw [if_neg c70] at H;have c70b0:decide (1<(l0.length:Int))=false:=decide_eq_false c70;have c70b1:decide (1<l0.length)=false:=decide_eq_false (by omega);clear c70
              by_cases c92:(l0.length:Int)=1
              ·
               as_aux_lemma =>
               rw [if_pos c92] at H;have c92b0:((l0.length:Int)==1)=true:=beq_iff_eq.mpr c92;have c92b1:((l0.length:Int) != 1)=false:=bne_eq_false_iff_eq.mpr c92;clear c92
               by_cases c93:0≤QF
               ·
                as_aux_lemma =>
                rw [if_pos c93] at H;have c93b0:decide (0≤QF)=true:=decide_eq_true c93;clear c93
                by_cases c94:QF<(YQ.length:Int)
                ·
                 as_aux_lemma =>
                 rw [if_pos c94] at H;have c94b0:decide (QF<(YQ.length:Int))=true:=decide_eq_true c94;clear c94;replace H:=Option.bind_eq_some_iff.mp H;obtain ⟨⟨qj4,qj5⟩,qqL,H⟩:=H;replace H:(if (!(((Qs YQ QF).f0)==qj4)||(!(((Qs YQ QF).f1)==qj5)))=true then (some false) else (Q9.l3 qbm l0 YQ J8 J4 (wrap64 (QF+1))))=some r:=H;have A95:=Q0.mk qqL;clear qqL
                 by_cases c96:(!(((Qs YQ QF).f0)==qj4)||(!(((Qs YQ QF).f1)==qj5)))=true
                 ·
                  as_aux_lemma =>
                  rw [if_pos c96] at H;have c96b0:(!(((Qs YQ QF).f0)==qj4)||(!(((Qs YQ QF).f1)==qj5)))=true:=c96;clear c96;obtain rfl:=Option.some.inj H
                  try go_wp2
                  have n0_:=Q0.mk (Kd.V_drew HO_7.out);have n1_:=Q0.mk (Kd.R_drew HO_9.out);have n2_:=Q0.mk (Kd.V_drew HO_14.out);have n3_:=Q0.mk (Q4 HB.out);clear HO_7 HO_9 HO_14 HB;have HO_7:=n0_;have HO_9:=n1_;have HO_14:=n2_;have HB:=n3_;clear n0_ n1_ n2_ n3_;obtain ⟨qDT,qD6,qrX⟩:=Kd.V_slice HO_7.out
                  (first|subst qrX|(injection qrX with f1_ f2_ f3_;have f4_:=f1_.symm;have f5_:=f3_.symm;clear f1_ f2_ f3_;subst f4_;subst f5_))
                  have qg8:0≤(QF:Int):=of_decide_eq_true (by first|(with_reducible assumption)|assumption);have qhl:QF<(YQ.length:Int):=of_decide_eq_true (by first|(with_reducible assumption)|assumption);obtain ⟨qcp,qpM,qaw,qax⟩:=JM (Kd.V_reads' HO_7.out).2.2 QF qg8 qhl;cases qpM;replace qg8:=eq_true qg8;replace qhl:=eq_true qhl;refine Kr (n:=22) (S:=fun w'=>w'.cell? (qcp.add ((QF).toNat*2))=some (.int .i64 ((Qs YQ QF).f0))∧w'.cell? ⟨(qcp.add ((QF).toNat*2)).block,(qcp.add ((QF).toNat*2)).off+1,none⟩=some (.int .i64 ((Qs YQ QF).f1))) (ds:=[]) #[false,false,false,false,false,false,false,false,false,false,false,false,false,false,false,false,false,false,false,false,false,false] (by kernel_rfl) rfl rfl ⟨qaw,qax⟩ (fun hHeld => ?_);refine JC Q9.tab29 Q9.bits29 (fun HT_ HW_ => ?_)
                  generalize wc.drew=w97 at HO_7 HO_9 HO_14 HB qaw qax hHeld ⊢
                  refine Qx (i:=0) (N:=some 161) (v:=?_) (a':=?_) #[true,false,false,false,false,false,false,false,false,false,false,false,false,false,false,false,false,false,false,false,false,false] rfl rfl (Qr HT_.out (by kernel_rfl)) (fun _ _ _ h=>h) (Or.inl ⟨by rfl,?_⟩) ?_ ?_
                  rotate_left
                  ·
                   intro w'
                   go_simp
                   with_reducible rfl
                  rotate_left
                  ·
                   simp only [Act.put,List.setIfInBounds_toArray,List.set_cons_zero,List.set_cons_succ,Qp,Qq]
                   rfl
                  refine Qx (i:=1) (N:=some 162) (v:=?_) (a':=?_) #[true,true,false,false,false,false,false,false,false,false,false,false,false,false,false,false,false,false,false,false,false,false] rfl rfl (Qr HT_.out (by kernel_rfl)) (fun _ _ _ h=>h) (Or.inl ⟨by rfl,?_⟩) ?_ ?_
                  rotate_left
                  ·
                   intro w'
                   go_simp
                   with_reducible rfl
                  rotate_left
                  ·
                   simp only [Act.put,List.setIfInBounds_toArray,List.set_cons_zero,List.set_cons_succ,Qp,Qq]
                   rfl
                  refine Qx (i:=2) (N:=some 163) (v:=?_) (a':=?_) #[true,true,true,false,false,false,false,false,false,false,false,false,false,false,false,false,false,false,false,false,false,false] rfl rfl (Qr HT_.out (by kernel_rfl)) (fun _ _ _ h=>h) (Or.inl ⟨by rfl,?_⟩) ?_ ?_
                  rotate_left
                  ·
                   intro w'
                   go_simp
                   with_reducible rfl
                  rotate_left
                  ·
                   simp only [Act.put,List.setIfInBounds_toArray,List.set_cons_zero,List.set_cons_succ,Qp,Qq]
                   rfl
                  refine Qx (i:=3) (N:=some 164) (v:=undef) (a':=?_) #[true,true,true,true,false,false,false,false,false,false,false,false,false,false,false,false,false,false,false,false,false,false] rfl rfl (Qr HT_.out (by kernel_rfl)) (fun _ _ _ h=>h) (Or.inr ⟨by rfl,rfl⟩) ?_ ?_
                  rotate_left
                  ·
                   simp only [Act.put,List.setIfInBounds_toArray,List.set_cons_zero,List.set_cons_succ,Qp,Qq]
                   rfl
                  refine Qx (i:=4) (N:=some 165) (v:=undef) (a':=?_) #[true,true,true,true,true,false,false,false,false,false,false,false,false,false,false,false,false,false,false,false,false,false] rfl rfl (Qr HT_.out (by kernel_rfl)) (fun _ _ _ h=>h) (Or.inr ⟨by rfl,rfl⟩) ?_ ?_
                  rotate_left
                  ·
                   simp only [Act.put,List.setIfInBounds_toArray,List.set_cons_zero,List.set_cons_succ,Qp,Qq]
                   rfl
                  refine Qx (i:=5) (N:=some 166) (v:=undef) (a':=?_) #[true,true,true,true,true,true,false,false,false,false,false,false,false,false,false,false,false,false,false,false,false,false] rfl rfl (Qr HT_.out (by kernel_rfl)) (fun _ _ _ h=>h) (Or.inr ⟨by rfl,rfl⟩) ?_ ?_
                  rotate_left
                  ·
                   simp only [Act.put,List.setIfInBounds_toArray,List.set_cons_zero,List.set_cons_succ,Qp,Qq]
                   rfl
                  refine Qx (i:=6) (N:=some 167) (v:=undef) (a':=?_) #[true,true,true,true,true,true,true,false,false,false,false,false,false,false,false,false,false,false,false,false,false,false] rfl rfl (Qr HT_.out (by kernel_rfl)) (fun _ _ _ h=>h) (Or.inr ⟨by rfl,rfl⟩) ?_ ?_
                  rotate_left
                  ·
                   simp only [Act.put,List.setIfInBounds_toArray,List.set_cons_zero,List.set_cons_succ,Qp,Qq]
                   rfl
                  refine Qx (i:=7) (N:=some 168) (v:=undef) (a':=?_) #[true,true,true,true,true,true,true,true,false,false,false,false,false,false,false,false,false,false,false,false,false,false] rfl rfl (Qr HT_.out (by kernel_rfl)) (fun _ _ _ h=>h) (Or.inr ⟨by rfl,rfl⟩) ?_ ?_
                  rotate_left
                  ·
                   simp only [Act.put,List.setIfInBounds_toArray,List.set_cons_zero,List.set_cons_succ,Qp,Qq]
                   rfl
                  refine Qx (i:=8) (N:=some 169) (v:=undef) (a':=?_) #[true,true,true,true,true,true,true,true,true,false,false,false,false,false,false,false,false,false,false,false,false,false] rfl rfl (Qr HT_.out (by kernel_rfl)) (fun _ _ _ h=>h) (Or.inr ⟨by rfl,rfl⟩) ?_ ?_
                  rotate_left
                  ·
                   simp only [Act.put,List.setIfInBounds_toArray,List.set_cons_zero,List.set_cons_succ,Qp,Qq]
                   rfl
                  refine Qx (i:=9) (N:=some 170) (v:=?_) (a':=?_) #[true,true,true,true,true,true,true,true,true,true,false,false,false,false,false,false,false,false,false,false,false,false] rfl rfl (Qr HT_.out (by kernel_rfl)) (fun _ _ _ h=>h) (Or.inl ⟨by rfl,?_⟩) ?_ ?_
                  rotate_left
                  ·
                   intro w'
                   go_simp
                   with_reducible rfl
                  rotate_left
                  ·
                   simp only [Act.put,List.setIfInBounds_toArray,List.set_cons_zero,List.set_cons_succ,Qp,Qq]
                   rfl
                  refine Qx (i:=10) (N:=some 171) (v:=?_) (a':=?_) #[true,true,true,true,true,true,true,true,true,true,true,false,false,false,false,false,false,false,false,false,false,false] rfl rfl (Qr HT_.out (by kernel_rfl)) (fun _ _ _ h=>h) (Or.inl ⟨by rfl,?_⟩) ?_ ?_
                  rotate_left
                  ·
                   intro w'
                   go_simp
                   with_reducible rfl
                  rotate_left
                  ·
                   simp only [Act.put,List.setIfInBounds_toArray,List.set_cons_zero,List.set_cons_succ,Qp,Qq]
                   rfl
                  refine Qx (i:=11) (N:=some 172) (v:=?_) (a':=?_) #[true,true,true,true,true,true,true,true,true,true,true,true,false,false,false,false,false,false,false,false,false,false] rfl rfl (Qr HT_.out (by kernel_rfl)) (fun _ _ _ h=>h) (Or.inl ⟨by rfl,?_⟩) ?_ ?_
                  rotate_left
                  ·
                   intro w'
                   go_simp
                   with_reducible rfl
                  rotate_left
                  ·
                   simp only [Act.put,List.setIfInBounds_toArray,List.set_cons_zero,List.set_cons_succ,Qp,Qq]
                   rfl
                  refine Qx (i:=12) (N:=some 173) (v:=?_) (a':=?_) #[true,true,true,true,true,true,true,true,true,true,true,true,true,false,false,false,false,false,false,false,false,false] rfl rfl (Qr HT_.out (by kernel_rfl)) (fun _ _ _ h=>h) (Or.inl ⟨by rfl,?_⟩) ?_ ?_
                  rotate_left
                  ·
                   intro w'
                   go_simp
                   with_reducible rfl
                  rotate_left
                  ·
                   simp only [Act.put,List.setIfInBounds_toArray,List.set_cons_zero,List.set_cons_succ,Qp,Qq]
                   rfl
                  refine Qx (i:=13) (N:=some 174) (v:=?_) (a':=?_) #[true,true,true,true,true,true,true,true,true,true,true,true,true,true,false,false,false,false,false,false,false,false] rfl rfl (Qr HT_.out (by kernel_rfl)) (fun _ _ _ h=>h) (Or.inl ⟨by rfl,?_⟩) ?_ ?_
                  rotate_left
                  ·
                   intro w'
                   go_simp
                   with_reducible rfl
                  rotate_left
                  ·
                   simp only [Act.put,List.setIfInBounds_toArray,List.set_cons_zero,List.set_cons_succ,Qp,Qq]
                   rfl
                  refine Qx (i:=14) (N:=some 175) (v:=?_) (a':=?_) #[true,true,true,true,true,true,true,true,true,true,true,true,true,true,true,false,false,false,false,false,false,false] rfl rfl (Qr HT_.out (by kernel_rfl)) (fun _ _ _ h=>h) (Or.inl ⟨by rfl,?_⟩) ?_ ?_
                  rotate_left
                  ·
                   intro w'
                   go_simp
                   with_reducible rfl
                  rotate_left
                  ·
                   simp only [Act.put,List.setIfInBounds_toArray,List.set_cons_zero,List.set_cons_succ,Qp,Qq]
                   rfl
                  refine Qx (i:=15) (N:=some 176) (v:=?_) (a':=?_) #[true,true,true,true,true,true,true,true,true,true,true,true,true,true,true,true,false,false,false,false,false,false] rfl rfl (Qr HT_.out (by kernel_rfl)) (fun _ _ _ h=>h) (Or.inl ⟨by rfl,?_⟩) ?_ ?_
                  rotate_left
                  ·
                   intro w'
                   go_simp
                   with_reducible rfl
                  rotate_left
                  ·
                   simp only [Act.put,List.setIfInBounds_toArray,List.set_cons_zero,List.set_cons_succ,Qp,Qq]
                   rfl
                  refine Qx (i:=16) (N:=some 177) (v:=?_) (a':=?_) #[true,true,true,true,true,true,true,true,true,true,true,true,true,true,true,true,true,false,false,false,false,false] rfl rfl (Qr HT_.out (by kernel_rfl)) (fun _ _ _ h=>h) (Or.inl ⟨by rfl,?_⟩) ?_ ?_
                  rotate_left
                  ·
                   intro w'
                   go_simp
                   with_reducible rfl
                  rotate_left
                  ·
                   simp only [Act.put,List.setIfInBounds_toArray,List.set_cons_zero,List.set_cons_succ,Qp,Qq]
                   rfl
                  refine JG (i:=17) (N:=some 178) (v:=?_) (a':=?_) #[true,true,true,true,true,true,true,true,true,true,true,true,true,true,true,true,true,true,false,false,false,false] rfl rfl (Z8 HT_.out HW_.out (by kernel_rfl)) (fun _ _ _ h=>h) (Or.inl ⟨by rfl,?_⟩) hHeld ?_ ?_
                  rotate_left
                  ·
                   rintro w' ⟨s0,s1⟩
                   go_simp
                   with_reducible rfl
                  rotate_left
                  ·
                   simp only [Act.put,List.setIfInBounds_toArray,List.set_cons_zero,List.set_cons_succ,Qp,Qq]
                   rfl
                  refine one_ (i:=18) (N:=some 179) #[true,true,true,true,true,true,true,true,true,true,true,true,true,true,true,true,true,true,true,false,false,false] rfl rfl (JE HT_.out (by kernel_rfl)) (by decide) (fun K hK => ?_);refine Kv Try.func43 (by kernel_rfl) rfl #[.int .i64 100,.int .i64 100] (by rfl) rfl rfl (by (try simp only [List.map_toArray,List.map_cons,List.map_nil]);first|done|rfl|(simp only [List.length_drop,List.length_take];rfl)) ?_
                  with_reducible refine (Qt.calls 100 100 qj4 qj5 _ A95.out).mono ?_
                  rintro e w99 ⟨rfl,hb⟩;have HS0_:=(hb.cell (World.block_lt_of_cell? _ _ (hHeld.1))).trans (hHeld.1);have HS1_:=(hb.cell (World.block_lt_of_cell? _ _ (hHeld.2))).trans (hHeld.2);refine ⟨_,rfl,?_⟩;have n0_:=Q0.mk (Kd.V_below (by (with_reducible repeat (first|apply Kd.V_alloc|apply Kd.V_drewN|apply Kd.V_drew));exact HO_7.out) hb);have n1_:=Q0.mk (Kd.R_below (by (with_reducible repeat (first|apply Kd.R_alloc|apply Kd.R_drewN|apply Kd.R_drew));exact HO_9.out) hb);have n2_:=Q0.mk (Kd.V_below (by (with_reducible repeat (first|apply Kd.V_alloc|apply Kd.V_drewN|apply Kd.V_drew));exact HO_14.out) hb);have n3_:=Q0.mk (Qi (by repeat (first|(with_reducible first|exact HB.out|apply Q2|apply Q1|apply Q4)|exact HB.out)) hb);clear HO_7 HO_9 HO_14 HB;have HO_7:=n0_;have HO_9:=n1_;have HO_14:=n2_;have HB:=n3_;clear n0_ n1_ n2_ n3_
                  (try clear hb)
                  (try clear hb2)
                  (try clear hk)
                  (try clear hi)
                  refine hK.out _ _ ⟨HS0_,HS1_⟩ (fun hHeld => ?_);clear hK K;refine Jr (a':=?_) ?_ ?_
                  rotate_left
                  ·
                   show Act.put _ (some 179) _=_
                   simp only [Act.put,List.setIfInBounds_toArray,List.set_cons_zero,List.set_cons_succ,Qp,Qq]
                   rfl
                  refine Qx (i:=19) (N:=some 180) (v:=?_) (a':=?_) #[true,true,true,true,true,true,true,true,true,true,true,true,true,true,true,true,true,true,true,true,false,false] rfl rfl (Qr HT_.out (by kernel_rfl)) (fun _ _ _ h=>h) (Or.inl ⟨by rfl,?_⟩) ?_ ?_
                  rotate_left
                  ·
                   intro w'
                   go_simp
                   with_reducible rfl
                  rotate_left
                  ·
                   simp only [Act.put,List.setIfInBounds_toArray,List.set_cons_zero,List.set_cons_succ,Qp,Qq]
                   rfl
                  refine Qx (i:=20) (N:=some 181) (v:=?_) (a':=?_) #[true,true,true,true,true,true,true,true,true,true,true,true,true,true,true,true,true,true,true,true,true,false] rfl rfl (Qr HT_.out (by kernel_rfl)) (fun _ _ _ h=>h) (Or.inl ⟨by rfl,?_⟩) ?_ ?_
                  rotate_left
                  ·
                   intro w'
                   go_simp
                   with_reducible rfl
                  rotate_left
                  ·
                   simp only [Act.put,List.setIfInBounds_toArray,List.set_cons_zero,List.set_cons_succ,Qp,Qq]
                   rfl
                  refine Qx (i:=21) (N:=some 182) (v:=?_) (a':=?_) #[true,true,true,true,true,true,true,true,true,true,true,true,true,true,true,true,true,true,true,true,true,true] rfl rfl (Qr HT_.out (by kernel_rfl)) (fun _ _ _ h=>h) (Or.inl ⟨by rfl,?_⟩) ?_ ?_
                  rotate_left
                  ·
                   intro w'
                   go_simp
                   with_reducible rfl
                  rotate_left
                  ·
                   simp only [Act.put,List.setIfInBounds_toArray,List.set_cons_zero,List.set_cons_succ,Qp,Qq]
                   rfl
                  refine OC (Gi HT_.out (by kernel_rfl)) ?_
                  try go_wp2
                  go_ret
                  exact ⟨by first|rfl|(simp [Qv,Qw]<;>rfl)|(simp [*,Qv,Qw]<;>rfl),by repeat (first|(with_reducible first|exact HB.out|apply Q2|apply Q1|apply Q4)|exact HB.out)⟩
                 as_aux_lemma =>
                 rw [if_neg c96] at H
                 have c96b0:(!(((Qs YQ QF).f0)==qj4)||(!(((Qs YQ QF).f1)==qj5)))=false:=by simpa using c96
                 clear c96;have H':=Q0.mk H;clear H
                 try go_wp2
                 have n0_:=Q0.mk (Kd.V_drew HO_7.out);have n1_:=Q0.mk (Kd.R_drew HO_9.out);have n2_:=Q0.mk (Kd.V_drew HO_14.out);have n3_:=Q0.mk (Q4 HB.out);clear HO_7 HO_9 HO_14 HB;have HO_7:=n0_;have HO_9:=n1_;have HO_14:=n2_;have HB:=n3_;clear n0_ n1_ n2_ n3_;obtain ⟨qBz,qB1,qo2⟩:=Kd.V_slice HO_7.out
                 (first|subst qo2|(injection qo2 with f1_ f2_ f3_;have f4_:=f1_.symm;have f5_:=f3_.symm;clear f1_ f2_ f3_;subst f4_;subst f5_))
                 have qg8:0≤(QF:Int):=of_decide_eq_true (by first|(with_reducible assumption)|assumption);have qhl:QF<(YQ.length:Int):=of_decide_eq_true (by first|(with_reducible assumption)|assumption);obtain ⟨qcp,qpM,qaw,qax⟩:=JM (Kd.V_reads' HO_7.out).2.2 QF qg8 qhl;cases qpM;replace qg8:=eq_true qg8;replace qhl:=eq_true qhl;refine Kr (n:=22) (S:=fun w'=>w'.cell? (qcp.add ((QF).toNat*2))=some (.int .i64 ((Qs YQ QF).f0))∧w'.cell? ⟨(qcp.add ((QF).toNat*2)).block,(qcp.add ((QF).toNat*2)).off+1,none⟩=some (.int .i64 ((Qs YQ QF).f1))) (ds:=[]) #[false,false,false,false,false,false,false,false,false,false,false,false,false,false,false,false,false,false,false,false,false,false] (by kernel_rfl) rfl rfl ⟨qaw,qax⟩ (fun hHeld => ?_);refine JC Q9.tab29 Q9.bits29 (fun HT_ HW_ => ?_)
                 generalize wc.drew=qFz at HO_7 HO_9 HO_14 HB qaw qax hHeld ⊢
                 refine Qx (i:=0) (N:=some 161) (v:=?_) (a':=?_) #[true,false,false,false,false,false,false,false,false,false,false,false,false,false,false,false,false,false,false,false,false,false] rfl rfl (Qr HT_.out (by kernel_rfl)) (fun _ _ _ h=>h) (Or.inl ⟨by rfl,?_⟩) ?_ ?_
                 rotate_left
                 ·
                  intro w'
                  go_simp
                  with_reducible rfl
                 rotate_left
                 ·
                  simp only [Act.put,List.setIfInBounds_toArray,List.set_cons_zero,List.set_cons_succ,Qp,Qq]
                  rfl
                 refine Qx (i:=1) (N:=some 162) (v:=?_) (a':=?_) #[true,true,false,false,false,false,false,false,false,false,false,false,false,false,false,false,false,false,false,false,false,false] rfl rfl (Qr HT_.out (by kernel_rfl)) (fun _ _ _ h=>h) (Or.inl ⟨by rfl,?_⟩) ?_ ?_
                 rotate_left
                 ·
                  intro w'
                  go_simp
                  with_reducible rfl
                 rotate_left
                 ·
                  simp only [Act.put,List.setIfInBounds_toArray,List.set_cons_zero,List.set_cons_succ,Qp,Qq]
                  rfl
                 refine Qx (i:=2) (N:=some 163) (v:=?_) (a':=?_) #[true,true,true,false,false,false,false,false,false,false,false,false,false,false,false,false,false,false,false,false,false,false] rfl rfl (Qr HT_.out (by kernel_rfl)) (fun _ _ _ h=>h) (Or.inl ⟨by rfl,?_⟩) ?_ ?_
                 rotate_left
                 ·
                  intro w'
                  go_simp
                  with_reducible rfl
                 rotate_left
                 ·
                  simp only [Act.put,List.setIfInBounds_toArray,List.set_cons_zero,List.set_cons_succ,Qp,Qq]
                  rfl
                 refine Qx (i:=3) (N:=some 164) (v:=undef) (a':=?_) #[true,true,true,true,false,false,false,false,false,false,false,false,false,false,false,false,false,false,false,false,false,false] rfl rfl (Qr HT_.out (by kernel_rfl)) (fun _ _ _ h=>h) (Or.inr ⟨by rfl,rfl⟩) ?_ ?_
                 rotate_left
                 ·
                  simp only [Act.put,List.setIfInBounds_toArray,List.set_cons_zero,List.set_cons_succ,Qp,Qq]
                  rfl
                 refine Qx (i:=4) (N:=some 165) (v:=undef) (a':=?_) #[true,true,true,true,true,false,false,false,false,false,false,false,false,false,false,false,false,false,false,false,false,false] rfl rfl (Qr HT_.out (by kernel_rfl)) (fun _ _ _ h=>h) (Or.inr ⟨by rfl,rfl⟩) ?_ ?_
                 rotate_left
                 ·
                  simp only [Act.put,List.setIfInBounds_toArray,List.set_cons_zero,List.set_cons_succ,Qp,Qq]
                  rfl
                 refine Qx (i:=5) (N:=some 166) (v:=undef) (a':=?_) #[true,true,true,true,true,true,false,false,false,false,false,false,false,false,false,false,false,false,false,false,false,false] rfl rfl (Qr HT_.out (by kernel_rfl)) (fun _ _ _ h=>h) (Or.inr ⟨by rfl,rfl⟩) ?_ ?_
                 rotate_left
                 ·
                  simp only [Act.put,List.setIfInBounds_toArray,List.set_cons_zero,List.set_cons_succ,Qp,Qq]
                  rfl
                 refine Qx (i:=6) (N:=some 167) (v:=undef) (a':=?_) #[true,true,true,true,true,true,true,false,false,false,false,false,false,false,false,false,false,false,false,false,false,false] rfl rfl (Qr HT_.out (by kernel_rfl)) (fun _ _ _ h=>h) (Or.inr ⟨by rfl,rfl⟩) ?_ ?_
                 rotate_left
                 ·
                  simp only [Act.put,List.setIfInBounds_toArray,List.set_cons_zero,List.set_cons_succ,Qp,Qq]
                  rfl
                 refine Qx (i:=7) (N:=some 168) (v:=undef) (a':=?_) #[true,true,true,true,true,true,true,true,false,false,false,false,false,false,false,false,false,false,false,false,false,false] rfl rfl (Qr HT_.out (by kernel_rfl)) (fun _ _ _ h=>h) (Or.inr ⟨by rfl,rfl⟩) ?_ ?_
                 rotate_left
                 ·
                  simp only [Act.put,List.setIfInBounds_toArray,List.set_cons_zero,List.set_cons_succ,Qp,Qq]
                  rfl
                 refine Qx (i:=8) (N:=some 169) (v:=undef) (a':=?_) #[true,true,true,true,true,true,true,true,true,false,false,false,false,false,false,false,false,false,false,false,false,false] rfl rfl (Qr HT_.out (by kernel_rfl)) (fun _ _ _ h=>h) (Or.inr ⟨by rfl,rfl⟩) ?_ ?_
                 rotate_left
                 ·
                  simp only [Act.put,List.setIfInBounds_toArray,List.set_cons_zero,List.set_cons_succ,Qp,Qq]
                  rfl
                 refine Qx (i:=9) (N:=some 170) (v:=?_) (a':=?_) #[true,true,true,true,true,true,true,true,true,true,false,false,false,false,false,false,false,false,false,false,false,false] rfl rfl (Qr HT_.out (by kernel_rfl)) (fun _ _ _ h=>h) (Or.inl ⟨by rfl,?_⟩) ?_ ?_
                 rotate_left
                 ·
                  intro w'
                  go_simp
                  with_reducible rfl
                 rotate_left
                 ·
                  simp only [Act.put,List.setIfInBounds_toArray,List.set_cons_zero,List.set_cons_succ,Qp,Qq]
                  rfl
                 refine Qx (i:=10) (N:=some 171) (v:=?_) (a':=?_) #[true,true,true,true,true,true,true,true,true,true,true,false,false,false,false,false,false,false,false,false,false,false] rfl rfl (Qr HT_.out (by kernel_rfl)) (fun _ _ _ h=>h) (Or.inl ⟨by rfl,?_⟩) ?_ ?_
                 rotate_left
                 ·
                  intro w'
                  go_simp
                  with_reducible rfl
                 rotate_left
                 ·
                  simp only [Act.put,List.setIfInBounds_toArray,List.set_cons_zero,List.set_cons_succ,Qp,Qq]
                  rfl
                 refine Qx (i:=11) (N:=some 172) (v:=?_) (a':=?_) #[true,true,true,true,true,true,true,true,true,true,true,true,false,false,false,false,false,false,false,false,false,false] rfl rfl (Qr HT_.out (by kernel_rfl)) (fun _ _ _ h=>h) (Or.inl ⟨by rfl,?_⟩) ?_ ?_
                 rotate_left
                 ·
                  intro w'
                  go_simp
                  with_reducible rfl
                 rotate_left
                 ·
                  simp only [Act.put,List.setIfInBounds_toArray,List.set_cons_zero,List.set_cons_succ,Qp,Qq]
                  rfl
                 refine Qx (i:=12) (N:=some 173) (v:=?_) (a':=?_) #[true,true,true,true,true,true,true,true,true,true,true,true,true,false,false,false,false,false,false,false,false,false] rfl rfl (Qr HT_.out (by kernel_rfl)) (fun _ _ _ h=>h) (Or.inl ⟨by rfl,?_⟩) ?_ ?_
                 rotate_left
                 ·
                  intro w'
                  go_simp
                  with_reducible rfl
                 rotate_left
                 ·
                  simp only [Act.put,List.setIfInBounds_toArray,List.set_cons_zero,List.set_cons_succ,Qp,Qq]
                  rfl
                 refine Qx (i:=13) (N:=some 174) (v:=?_) (a':=?_) #[true,true,true,true,true,true,true,true,true,true,true,true,true,true,false,false,false,false,false,false,false,false] rfl rfl (Qr HT_.out (by kernel_rfl)) (fun _ _ _ h=>h) (Or.inl ⟨by rfl,?_⟩) ?_ ?_
                 rotate_left
                 ·
                  intro w'
                  go_simp
                  with_reducible rfl
                 rotate_left
                 ·
                  simp only [Act.put,List.setIfInBounds_toArray,List.set_cons_zero,List.set_cons_succ,Qp,Qq]
                  rfl
                 refine Qx (i:=14) (N:=some 175) (v:=?_) (a':=?_) #[true,true,true,true,true,true,true,true,true,true,true,true,true,true,true,false,false,false,false,false,false,false] rfl rfl (Qr HT_.out (by kernel_rfl)) (fun _ _ _ h=>h) (Or.inl ⟨by rfl,?_⟩) ?_ ?_
                 rotate_left
                 ·
                  intro w'
                  go_simp
                  with_reducible rfl
                 rotate_left
                 ·
                  simp only [Act.put,List.setIfInBounds_toArray,List.set_cons_zero,List.set_cons_succ,Qp,Qq]
                  rfl
                 refine Qx (i:=15) (N:=some 176) (v:=?_) (a':=?_) #[true,true,true,true,true,true,true,true,true,true,true,true,true,true,true,true,false,false,false,false,false,false] rfl rfl (Qr HT_.out (by kernel_rfl)) (fun _ _ _ h=>h) (Or.inl ⟨by rfl,?_⟩) ?_ ?_
                 rotate_left
                 ·
                  intro w'
                  go_simp
                  with_reducible rfl
                 rotate_left
                 ·
                  simp only [Act.put,List.setIfInBounds_toArray,List.set_cons_zero,List.set_cons_succ,Qp,Qq]
                  rfl
                 refine Qx (i:=16) (N:=some 177) (v:=?_) (a':=?_) #[true,true,true,true,true,true,true,true,true,true,true,true,true,true,true,true,true,false,false,false,false,false] rfl rfl (Qr HT_.out (by kernel_rfl)) (fun _ _ _ h=>h) (Or.inl ⟨by rfl,?_⟩) ?_ ?_
                 rotate_left
                 ·
                  intro w'
                  go_simp
                  with_reducible rfl
                 rotate_left
                 ·
                  simp only [Act.put,List.setIfInBounds_toArray,List.set_cons_zero,List.set_cons_succ,Qp,Qq]
                  rfl
                 refine JG (i:=17) (N:=some 178) (v:=?_) (a':=?_) #[true,true,true,true,true,true,true,true,true,true,true,true,true,true,true,true,true,true,false,false,false,false] rfl rfl (Z8 HT_.out HW_.out (by kernel_rfl)) (fun _ _ _ h=>h) (Or.inl ⟨by rfl,?_⟩) hHeld ?_ ?_
                 rotate_left
                 ·
                  rintro w' ⟨s0,s1⟩
                  go_simp
                  with_reducible rfl
                 rotate_left
                 ·
                  simp only [Act.put,List.setIfInBounds_toArray,List.set_cons_zero,List.set_cons_succ,Qp,Qq]
                  rfl
                 refine one_ (i:=18) (N:=some 179) #[true,true,true,true,true,true,true,true,true,true,true,true,true,true,true,true,true,true,true,false,false,false] rfl rfl (JE HT_.out (by kernel_rfl)) (by decide) (fun K hK => ?_);refine Kv Try.func43 (by kernel_rfl) rfl #[.int .i64 100,.int .i64 100] (by rfl) rfl rfl (by (try simp only [List.map_toArray,List.map_cons,List.map_nil]);first|done|rfl|(simp only [List.length_drop,List.length_take];rfl)) ?_
                 with_reducible refine (Qt.calls 100 100 qj4 qj5 _ A95.out).mono ?_
                 rintro e qFA ⟨rfl,hb⟩;have HS0_:=(hb.cell (World.block_lt_of_cell? _ _ (hHeld.1))).trans (hHeld.1);have HS1_:=(hb.cell (World.block_lt_of_cell? _ _ (hHeld.2))).trans (hHeld.2);refine ⟨_,rfl,?_⟩;have n0_:=Q0.mk (Kd.V_below (by (with_reducible repeat (first|apply Kd.V_alloc|apply Kd.V_drewN|apply Kd.V_drew));exact HO_7.out) hb);have n1_:=Q0.mk (Kd.R_below (by (with_reducible repeat (first|apply Kd.R_alloc|apply Kd.R_drewN|apply Kd.R_drew));exact HO_9.out) hb);have n2_:=Q0.mk (Kd.V_below (by (with_reducible repeat (first|apply Kd.V_alloc|apply Kd.V_drewN|apply Kd.V_drew));exact HO_14.out) hb);have n3_:=Q0.mk (Qi (by repeat (first|(with_reducible first|exact HB.out|apply Q2|apply Q1|apply Q4)|exact HB.out)) hb);clear HO_7 HO_9 HO_14 HB;have HO_7:=n0_;have HO_9:=n1_;have HO_14:=n2_;have HB:=n3_;clear n0_ n1_ n2_ n3_
                 (try clear hb)
                 (try clear hb2)
                 (try clear hk)
                 (try clear hi)
                 refine hK.out _ _ ⟨HS0_,HS1_⟩ (fun hHeld => ?_);clear hK K;refine Jr (a':=?_) ?_ ?_
                 rotate_left
                 ·
                  show Act.put _ (some 179) _=_
                  simp only [Act.put,List.setIfInBounds_toArray,List.set_cons_zero,List.set_cons_succ,Qp,Qq]
                  rfl
                 refine Qx (i:=19) (N:=some 180) (v:=?_) (a':=?_) #[true,true,true,true,true,true,true,true,true,true,true,true,true,true,true,true,true,true,true,true,false,false] rfl rfl (Qr HT_.out (by kernel_rfl)) (fun _ _ _ h=>h) (Or.inl ⟨by rfl,?_⟩) ?_ ?_
                 rotate_left
                 ·
                  intro w'
                  go_simp
                  with_reducible rfl
                 rotate_left
                 ·
                  simp only [Act.put,List.setIfInBounds_toArray,List.set_cons_zero,List.set_cons_succ,Qp,Qq]
                  rfl
                 refine Qx (i:=20) (N:=some 181) (v:=?_) (a':=?_) #[true,true,true,true,true,true,true,true,true,true,true,true,true,true,true,true,true,true,true,true,true,false] rfl rfl (Qr HT_.out (by kernel_rfl)) (fun _ _ _ h=>h) (Or.inl ⟨by rfl,?_⟩) ?_ ?_
                 rotate_left
                 ·
                  intro w'
                  go_simp
                  with_reducible rfl
                 rotate_left
                 ·
                  simp only [Act.put,List.setIfInBounds_toArray,List.set_cons_zero,List.set_cons_succ,Qp,Qq]
                  rfl
                 refine Qx (i:=21) (N:=some 182) (v:=?_) (a':=?_) #[true,true,true,true,true,true,true,true,true,true,true,true,true,true,true,true,true,true,true,true,true,true] rfl rfl (Qr HT_.out (by kernel_rfl)) (fun _ _ _ h=>h) (Or.inl ⟨by rfl,?_⟩) ?_ ?_
                 rotate_left
                 ·
                  intro w'
                  go_simp
                  with_reducible rfl
                 rotate_left
                 ·
                  simp only [Act.put,List.setIfInBounds_toArray,List.set_cons_zero,List.set_cons_succ,Qp,Qq]
                  rfl
                 refine OC (Gi HT_.out (by kernel_rfl)) ?_
                 try go_wp2
                 go_roundg qbm
                 case measure=>have:=HJ2.out;have:=Wh.out;have:=HK3.out;have:=qcO.out;have:=HK5.out;have:=qeU.out;omega
                 case rel=>exact ⟨(wrap64 (QF+1)),(by first|rfl|(simp;done)|(simp [*];done)),H',⟨by have:=HJ2.out;have:=Wh.out;have:=HK3.out;have:=qcO.out;have:=HK5.out;have:=qeU.out;omega⟩,⟨by (with_reducible repeat (first|apply Kd.V_alloc|apply Kd.V_drewN|apply Kd.V_drew));exact HO_7.out⟩,⟨by (with_reducible repeat (first|apply Kd.R_alloc|apply Kd.R_drewN|apply Kd.R_drew));exact HO_9.out⟩,⟨by (with_reducible repeat (first|apply Kd.V_alloc|apply Kd.V_drewN|apply Kd.V_drew));exact HO_14.out⟩,⟨by repeat (first|(with_reducible first|exact HB.out|apply Q2|apply Q1|apply Q4)|exact HB.out)⟩⟩
                rw [if_neg c94] at H
                exact absurd H (by simp)
               rw [if_neg c93] at H
               exact absurd H (by simp)
              as_aux_lemma =>
              rw [if_neg c92] at H;have c92b0:((l0.length:Int)==1)=false:=beq_eq_false_iff_ne.mpr c92;have c92b1:((l0.length:Int) != 1)=true:=bne_iff_ne.mpr c92;have H':=Q0.mk H;clear H
              try go_wp2
              have n0_:=Q0.mk (Kd.V_drew HO_7.out);have n1_:=Q0.mk (Kd.R_drew HO_9.out);have n2_:=Q0.mk (Kd.V_drew HO_14.out);have n3_:=Q0.mk (Q4 HB.out);clear HO_7 HO_9 HO_14 HB;have HO_7:=n0_;have HO_9:=n1_;have HO_14:=n2_;have HB:=n3_;clear n0_ n1_ n2_ n3_;refine Kr (n:=22) (S:=fun w'=>True) (ds:=[]) #[false,false,false,false,false,false,false,false,false,false,false,false,false,false,false,false,false,false,false,false,false,false] (by kernel_rfl) rfl rfl trivial (fun hHeld => ?_);refine JC Q9.tab29 Q9.bits29 (fun HT_ HW_ => ?_)
              generalize wc.drew=qFB at HO_7 HO_9 HO_14 HB hHeld ⊢
              refine Qx (i:=0) (N:=some 161) (v:=?_) (a':=?_) #[true,false,false,false,false,false,false,false,false,false,false,false,false,false,false,false,false,false,false,false,false,false] rfl rfl (Qr HT_.out (by kernel_rfl)) (fun _ _ _ h=>h) (Or.inl ⟨by rfl,?_⟩) ?_ ?_
              rotate_left
              ·
               intro w'
               go_simp
               with_reducible rfl
              rotate_left
              ·
               simp only [Act.put,List.setIfInBounds_toArray,List.set_cons_zero,List.set_cons_succ,Qp,Qq]
               rfl
              refine Qx (i:=1) (N:=some 162) (v:=?_) (a':=?_) #[true,true,false,false,false,false,false,false,false,false,false,false,false,false,false,false,false,false,false,false,false,false] rfl rfl (Qr HT_.out (by kernel_rfl)) (fun _ _ _ h=>h) (Or.inl ⟨by rfl,?_⟩) ?_ ?_
              rotate_left
              ·
               intro w'
               go_simp
               with_reducible rfl
              rotate_left
              ·
               simp only [Act.put,List.setIfInBounds_toArray,List.set_cons_zero,List.set_cons_succ,Qp,Qq]
               rfl
              refine Qx (i:=2) (N:=some 163) (v:=?_) (a':=?_) #[true,true,true,false,false,false,false,false,false,false,false,false,false,false,false,false,false,false,false,false,false,false] rfl rfl (Qr HT_.out (by kernel_rfl)) (fun _ _ _ h=>h) (Or.inl ⟨by rfl,?_⟩) ?_ ?_
              rotate_left
              ·
               intro w'
               go_simp
               with_reducible rfl
              rotate_left
              ·
               simp only [Act.put,List.setIfInBounds_toArray,List.set_cons_zero,List.set_cons_succ,Qp,Qq]
               rfl
              refine Qx (i:=3) (N:=some 164) (v:=undef) (a':=?_) #[true,true,true,true,false,false,false,false,false,false,false,false,false,false,false,false,false,false,false,false,false,false] rfl rfl (Qr HT_.out (by kernel_rfl)) (fun _ _ _ h=>h) (Or.inr ⟨by rfl,rfl⟩) ?_ ?_
              rotate_left
              ·
               simp only [Act.put,List.setIfInBounds_toArray,List.set_cons_zero,List.set_cons_succ,Qp,Qq]
               rfl
              refine Qx (i:=4) (N:=some 165) (v:=undef) (a':=?_) #[true,true,true,true,true,false,false,false,false,false,false,false,false,false,false,false,false,false,false,false,false,false] rfl rfl (Qr HT_.out (by kernel_rfl)) (fun _ _ _ h=>h) (Or.inr ⟨by rfl,rfl⟩) ?_ ?_
              rotate_left
              ·
               simp only [Act.put,List.setIfInBounds_toArray,List.set_cons_zero,List.set_cons_succ,Qp,Qq]
               rfl
              refine Qx (i:=5) (N:=some 166) (v:=undef) (a':=?_) #[true,true,true,true,true,true,false,false,false,false,false,false,false,false,false,false,false,false,false,false,false,false] rfl rfl (Qr HT_.out (by kernel_rfl)) (fun _ _ _ h=>h) (Or.inr ⟨by rfl,rfl⟩) ?_ ?_
              rotate_left
              ·
               simp only [Act.put,List.setIfInBounds_toArray,List.set_cons_zero,List.set_cons_succ,Qp,Qq]
               rfl
              refine Qx (i:=6) (N:=some 167) (v:=undef) (a':=?_) #[true,true,true,true,true,true,true,false,false,false,false,false,false,false,false,false,false,false,false,false,false,false] rfl rfl (Qr HT_.out (by kernel_rfl)) (fun _ _ _ h=>h) (Or.inr ⟨by rfl,rfl⟩) ?_ ?_
              rotate_left
              ·
               simp only [Act.put,List.setIfInBounds_toArray,List.set_cons_zero,List.set_cons_succ,Qp,Qq]
               rfl
              refine Qx (i:=7) (N:=some 168) (v:=undef) (a':=?_) #[true,true,true,true,true,true,true,true,false,false,false,false,false,false,false,false,false,false,false,false,false,false] rfl rfl (Qr HT_.out (by kernel_rfl)) (fun _ _ _ h=>h) (Or.inr ⟨by rfl,rfl⟩) ?_ ?_
              rotate_left
              ·
               simp only [Act.put,List.setIfInBounds_toArray,List.set_cons_zero,List.set_cons_succ,Qp,Qq]
               rfl
              refine Qx (i:=8) (N:=some 169) (v:=undef) (a':=?_) #[true,true,true,true,true,true,true,true,true,false,false,false,false,false,false,false,false,false,false,false,false,false] rfl rfl (Qr HT_.out (by kernel_rfl)) (fun _ _ _ h=>h) (Or.inr ⟨by rfl,rfl⟩) ?_ ?_
              rotate_left
              ·
               simp only [Act.put,List.setIfInBounds_toArray,List.set_cons_zero,List.set_cons_succ,Qp,Qq]
               rfl
              refine Qx (i:=9) (N:=some 170) (v:=?_) (a':=?_) #[true,true,true,true,true,true,true,true,true,true,false,false,false,false,false,false,false,false,false,false,false,false] rfl rfl (Qr HT_.out (by kernel_rfl)) (fun _ _ _ h=>h) (Or.inl ⟨by rfl,?_⟩) ?_ ?_
              rotate_left
              ·
               intro w'
               go_simp
               with_reducible rfl
              rotate_left
              ·
               simp only [Act.put,List.setIfInBounds_toArray,List.set_cons_zero,List.set_cons_succ,Qp,Qq]
               rfl
              refine Qx (i:=10) (N:=some 171) (v:=?_) (a':=?_) #[true,true,true,true,true,true,true,true,true,true,true,false,false,false,false,false,false,false,false,false,false,false] rfl rfl (Qr HT_.out (by kernel_rfl)) (fun _ _ _ h=>h) (Or.inl ⟨by rfl,?_⟩) ?_ ?_
              rotate_left
              ·
               intro w'
               go_simp
               with_reducible rfl
              rotate_left
              ·
               simp only [Act.put,List.setIfInBounds_toArray,List.set_cons_zero,List.set_cons_succ,Qp,Qq]
               rfl
              refine Qx (i:=11) (N:=some 172) (v:=?_) (a':=?_) #[true,true,true,true,true,true,true,true,true,true,true,true,false,false,false,false,false,false,false,false,false,false] rfl rfl (Qr HT_.out (by kernel_rfl)) (fun _ _ _ h=>h) (Or.inl ⟨by rfl,?_⟩) ?_ ?_
              rotate_left
              ·
               intro w'
               go_simp
               with_reducible rfl
              rotate_left
              ·
               simp only [Act.put,List.setIfInBounds_toArray,List.set_cons_zero,List.set_cons_succ,Qp,Qq]
               rfl
              refine Qx (i:=12) (N:=some 173) (v:=?_) (a':=?_) #[true,true,true,true,true,true,true,true,true,true,true,true,true,false,false,false,false,false,false,false,false,false] rfl rfl (Qr HT_.out (by kernel_rfl)) (fun _ _ _ h=>h) (Or.inl ⟨by rfl,?_⟩) ?_ ?_
              rotate_left
              ·
               intro w'
               go_simp
               with_reducible rfl
              rotate_left
              ·
               simp only [Act.put,List.setIfInBounds_toArray,List.set_cons_zero,List.set_cons_succ,Qp,Qq]
               rfl
              refine Qx (i:=13) (N:=some 174) (v:=?_) (a':=?_) #[true,true,true,true,true,true,true,true,true,true,true,true,true,true,false,false,false,false,false,false,false,false] rfl rfl (Qr HT_.out (by kernel_rfl)) (fun _ _ _ h=>h) (Or.inl ⟨by rfl,?_⟩) ?_ ?_
              rotate_left
              ·
               intro w'
               go_simp
               with_reducible rfl
              rotate_left
              ·
               simp only [Act.put,List.setIfInBounds_toArray,List.set_cons_zero,List.set_cons_succ,Qp,Qq]
               rfl
              refine Qx (i:=14) (N:=some 175) (v:=undef) (a':=?_) #[true,true,true,true,true,true,true,true,true,true,true,true,true,true,true,false,false,false,false,false,false,false] rfl rfl (Qr HT_.out (by kernel_rfl)) (fun _ _ _ h=>h) (Or.inr ⟨by rfl,rfl⟩) ?_ ?_
              rotate_left
              ·
               simp only [Act.put,List.setIfInBounds_toArray,List.set_cons_zero,List.set_cons_succ,Qp,Qq]
               rfl
              refine Qx (i:=15) (N:=some 176) (v:=undef) (a':=?_) #[true,true,true,true,true,true,true,true,true,true,true,true,true,true,true,true,false,false,false,false,false,false] rfl rfl (Qr HT_.out (by kernel_rfl)) (fun _ _ _ h=>h) (Or.inr ⟨by rfl,rfl⟩) ?_ ?_
              rotate_left
              ·
               simp only [Act.put,List.setIfInBounds_toArray,List.set_cons_zero,List.set_cons_succ,Qp,Qq]
               rfl
              refine Qx (i:=16) (N:=some 177) (v:=undef) (a':=?_) #[true,true,true,true,true,true,true,true,true,true,true,true,true,true,true,true,true,false,false,false,false,false] rfl rfl (Qr HT_.out (by kernel_rfl)) (fun _ _ _ h=>h) (Or.inr ⟨by rfl,rfl⟩) ?_ ?_
              rotate_left
              ·
               simp only [Act.put,List.setIfInBounds_toArray,List.set_cons_zero,List.set_cons_succ,Qp,Qq]
               rfl
              refine Qx (i:=17) (N:=some 178) (v:=undef) (a':=?_) #[true,true,true,true,true,true,true,true,true,true,true,true,true,true,true,true,true,true,false,false,false,false] rfl rfl (Qr HT_.out (by kernel_rfl)) (fun _ _ _ h=>h) (Or.inr ⟨by rfl,rfl⟩) ?_ ?_
              rotate_left
              ·
               simp only [Act.put,List.setIfInBounds_toArray,List.set_cons_zero,List.set_cons_succ,Qp,Qq]
               rfl
              refine Qx (i:=18) (N:=some 179) (v:=undef) (a':=?_) #[true,true,true,true,true,true,true,true,true,true,true,true,true,true,true,true,true,true,true,false,false,false] rfl rfl (Qr HT_.out (by kernel_rfl)) (fun _ _ _ h=>h) (Or.inr ⟨by rfl,rfl⟩) ?_ ?_
              rotate_left
              ·
               simp only [Act.put,List.setIfInBounds_toArray,List.set_cons_zero,List.set_cons_succ,Qp,Qq]
               rfl
              refine Qx (i:=19) (N:=some 180) (v:=undef) (a':=?_) #[true,true,true,true,true,true,true,true,true,true,true,true,true,true,true,true,true,true,true,true,false,false] rfl rfl (Qr HT_.out (by kernel_rfl)) (fun _ _ _ h=>h) (Or.inr ⟨by rfl,rfl⟩) ?_ ?_
              rotate_left
              ·
               simp only [Act.put,List.setIfInBounds_toArray,List.set_cons_zero,List.set_cons_succ,Qp,Qq]
               rfl
              refine Qx (i:=20) (N:=some 181) (v:=?_) (a':=?_) #[true,true,true,true,true,true,true,true,true,true,true,true,true,true,true,true,true,true,true,true,true,false] rfl rfl (Qr HT_.out (by kernel_rfl)) (fun _ _ _ h=>h) (Or.inl ⟨by rfl,?_⟩) ?_ ?_
              rotate_left
              ·
               intro w'
               go_simp
               with_reducible rfl
              rotate_left
              ·
               simp only [Act.put,List.setIfInBounds_toArray,List.set_cons_zero,List.set_cons_succ,Qp,Qq]
               rfl
              refine Qx (i:=21) (N:=some 182) (v:=?_) (a':=?_) #[true,true,true,true,true,true,true,true,true,true,true,true,true,true,true,true,true,true,true,true,true,true] rfl rfl (Qr HT_.out (by kernel_rfl)) (fun _ _ _ h=>h) (Or.inl ⟨by rfl,?_⟩) ?_ ?_
              rotate_left
              ·
               intro w'
               go_simp
               with_reducible rfl
              rotate_left
              ·
               simp only [Act.put,List.setIfInBounds_toArray,List.set_cons_zero,List.set_cons_succ,Qp,Qq]
               rfl
              refine OC (Gi HT_.out (by kernel_rfl)) ?_
              try go_wp2
              go_roundg qbm
              case measure=>have:=HJ2.out;have:=Wh.out;have:=HK3.out;have:=qcO.out;have:=HK5.out;have:=qeU.out;omega
              case rel=>exact ⟨(wrap64 (QF+1)),(by first|rfl|(simp;done)|(simp [*];done)),H',⟨by have:=HJ2.out;have:=Wh.out;have:=HK3.out;have:=qcO.out;have:=HK5.out;have:=qeU.out;omega⟩,⟨by (with_reducible repeat (first|apply Kd.V_alloc|apply Kd.V_drewN|apply Kd.V_drew));exact HO_7.out⟩,⟨by (with_reducible repeat (first|apply Kd.R_alloc|apply Kd.R_drewN|apply Kd.R_drew));exact HO_9.out⟩,⟨by (with_reducible repeat (first|apply Kd.V_alloc|apply Kd.V_drewN|apply Kd.V_drew));exact HO_14.out⟩,⟨by repeat (first|(with_reducible first|exact HB.out|apply Q2|apply Q1|apply Q4)|exact HB.out)⟩⟩
           as_aux_lemma =>
           rw [if_neg c54] at H;have c54b0:decide (QF<(J4.length:Int))=false:=decide_eq_false c54;clear c54;replace H:=Option.bind_eq_some_iff.mp H;obtain ⟨qoc,qoq,H⟩:=H;replace H:(some qoc)=some r:=H;have qzL:=Q0.mk qoq;clear qoq;obtain rfl:=Option.some.inj H;obtain ⟨qBA,qB2,qrQ⟩:=Kd.V_slice HO_14.out;subst qrQ
           go_wp2_with (first|((with_reducible refine Qz (f:=21) rfl ?_);refine Yo (some 183) rfl rfl Try.func21 (by kernel_rfl) rfl #[] rfl (by (try simp only [List.map_toArray,List.map_cons,List.map_nil]);first|done|rfl|(simp only [List.length_drop,List.length_take];rfl)) ?_;(with_reducible refine (Zt.calls  qoc _ qzL.out).mono ?_);rintro e qFC ⟨rfl,hb⟩;refine ⟨_,rfl,?_⟩;have n0_:=Q0.mk (Kd.V_below (by (with_reducible repeat (first|apply Kd.V_alloc|apply Kd.V_drewN|apply Kd.V_drew));exact HO_7.out) hb);have n1_:=Q0.mk (Kd.R_below (by (with_reducible repeat (first|apply Kd.R_alloc|apply Kd.R_drewN|apply Kd.R_drew));exact HO_9.out) hb);have n2_:=Q0.mk (Kd.V_below (by (with_reducible repeat (first|apply Kd.V_alloc|apply Kd.V_drewN|apply Kd.V_drew));exact HO_14.out) hb);have n3_:=Q0.mk (Qi (by repeat (first|(with_reducible first|exact HB.out|apply Q2|apply Q1|apply Q4)|exact HB.out)) hb);clear HO_7 HO_9 HO_14 HB;have HO_7:=n0_;have HO_9:=n1_;have HO_14:=n2_;have HB:=n3_;clear n0_ n1_ n2_ n3_;(try clear hb);(try clear hb2);(try clear hk);(try clear hi)))
           go_ret
           exact ⟨by first|rfl|(simp [Qv,Qw]<;>rfl)|(simp [*,Qv,Qw]<;>rfl),by repeat (first|(with_reducible first|exact HB.out|apply Q2|apply Q1|apply Q4)|exact HB.out)⟩
end
end Go.Proofs.Ytmhomdohhihlcaa.P
namespace Go.Proofs.Ytmhomdohhihlcaa.P
open Go.RowKit Go.ChangeShapes Go.WideShapes Go.Proofs.YtmhomdohhihlcaaW.PrintWords Go.Proofs.YtmhomdohhihlcaaW.PrintLast Go.Proofs.YtmhomdohhihlcaaW.PrintMore
def Wi {α:Type} (d:Kd α) (t:TypeId) (p:α→Prop):Prop:=∀ (H:Type) (enc:TypeId × Value→H) (w:World) (fuel:Nat) (cs:List Value) (x:DataW H × List MemPlace),
 DataW.trod enc Try.prog w 0 (fun _=>true) true fuel t cs=some x → ∃ a,d.K w a cs∧p a
def Wf (n:Int):Prop:=(Lit.int .i64 n).wf=true
theorem qjD:Wi (Kd.int .i64) 3 Wf:=fun H enc w fuel cs x h=>by
 obtain ⟨n,rfl,_,hw⟩:=DataW.trod_int Try.underlying3 h
 exact ⟨n,rfl,hw⟩
theorem qfW {α:Type} {d:Kd α} {e e' t:TypeId} {p:α→Prop} (h:Wi d e p) (ht:Try.prog.underlying t=some (.slice e)) (hc:Try.prog.cellsOf e=d.sz):Wi (Kd.slice e' d) t (fun xs => ∀ x∈xs,p x):=fun H enc w fuel cs x hf=>by
 rcases Deep.open_slice ht hf with ⟨rfl,_⟩|⟨a,len,cap,m,n,D,Pl,rfl,_,hl,hm,hmm,_,hx⟩
 ·
  exact ⟨[],⟨none,0,rfl,Nat.le_refl _,Kd.C_nil d w⟩,fun x hx=>by simp at hx⟩
 ·
  have each:∀ i,i<len → ∃ z:α,(∃ c,c.length=d.sz∧d.K w z c ∧ ∀ j u,c[j]? = some u→w.cell? (a.add (i*d.sz+j))=some u)∧p z:=fun i hi=>by
   obtain ⟨cs',h1,h2⟩:=hx i (by simp only [if_true] at hmm;omega)
   obtain ⟨z,hz,hp⟩:=h H enc w n cs' _ h2
   obtain ⟨_,hcl,hat⟩:=World.cells?_some h1
   refine ⟨z,⟨cs',d.K_len hz,hz,fun j u hu => ?_⟩,hp⟩
   have hj:j<cs'.length:=(List.getElem?_eq_some_iff.1 hu).1
   rw [d.K_len hz] at hj
   have hj':j<Try.prog.cellsOf e:=by rw [hc];exact hj
   have h3:=hat j hj'
   rw [Deep.add_add,hc] at h3
   rw [h3]
   exact hu
  by_cases h0:len=0
  ·
   subst h0
   exact ⟨[],⟨some a,cap,rfl,by simp,⟨rfl,by simp,fun hh=>by simp at hh⟩⟩,fun x hx=>by simp at hx⟩
  ·
   obtain ⟨z0,_⟩:=each 0 (by omega)
   have inst:Inhabited α:=⟨z0⟩
   obtain ⟨f,hfz⟩:=Deep.choose_lt each
   have hmx:cap≤9223372036854775807:=by unfold maxLen at hm;omega
   refine ⟨(List.range len).map f,⟨some a,cap,by simp,by simpa using hl,⟨rfl,by simp;omega,fun _=>⟨a,rfl,fun j q hj => ?_⟩⟩⟩,fun x hx => ?_⟩
   ·
    have hj2:j<len:=by have:=(List.getElem?_eq_some_iff.1 hj).1;simpa using this
    rw [List.getElem?_map,List.getElem?_range hj2] at hj
    injection hj with hj
    subst hj;obtain ⟨c,c1,c2,c3⟩:=(hfz j hj2).1
    exact ⟨c,c1,c2,c3⟩
   ·
    obtain ⟨i,hi,rfl⟩:=List.mem_map.1 hx
    exact (hfz i (List.mem_range.1 hi)).2
theorem c3:Try.prog.cellsOf 3=1:=by kernel_rfl
theorem c25:Try.prog.cellsOf 25=2:=by kernel_rfl
theorem c37:Try.prog.cellsOf 37=1:=by kernel_rfl
theorem c32:Try.prog.cellsOf 32=1:=by kernel_rfl
theorem c63:Try.prog.cellsOf 63=1:=by kernel_rfl
theorem c44:Try.prog.cellsOf 44=1:=by kernel_rfl
theorem c45:Try.prog.cellsOf 45=1:=by kernel_rfl
theorem c39:Try.prog.cellsOf 39=5:=by kernel_rfl
theorem c47:Try.prog.cellsOf 47=3:=by kernel_rfl
theorem c23:Try.prog.cellsOf 23=2:=by kernel_rfl
theorem qBo {α:Type} {l:List α} (h:l.length=2):∃ a b,l=[a,b]:=by
 match l,h with
 | [a,b],_=>exact ⟨a,b,rfl⟩
theorem qiN {α:Type} {l:List α} {i:Nat} {o:Option α} (hi:i<l.length) (h:o=l[i]?):∃ y,o=some y:=⟨l[i],by rw [h,List.getElem?_eq_getElem hi]⟩
def W25 (s:S25):Prop:=Wf s.f0∧Wf s.f1
def WL (l:List Int):Prop:=∀ x∈l,Wf x
theorem qhm:Wi (Kd.slice 3 (Kd.int .i64)) 37 WL:=qfW qjD Try.underlying37 c3
theorem qlF:Wi k25 25 W25:=fun H enc w fuel cs x h=>by
 obtain ⟨xs,n,_,_,hl,hxl,hf⟩:=DataW.trod_struct Try.underlying25 h
 rw [c25] at hl
 obtain ⟨a,b,rfl⟩:=qBo hl
 have h0:DataW.trod enc Try.prog w 0 (fun _=>true) true n 3 (([a,b].drop 0).take (Try.prog.cellsOf 3))=xs[0]?:=hf 0 _ rfl
 have h1:DataW.trod enc Try.prog w 0 (fun _=>true) true n 3 (([a,b].drop 1).take (Try.prog.cellsOf 3))=xs[1]?:=hf 1 _ rfl
 rw [c3] at h0 h1
 have hx2:xs.length=2:=hxl
 obtain ⟨y0,e0⟩:=qiN (by omega) h0
 obtain ⟨y1,e1⟩:=qiN (by omega) h1
 obtain ⟨n0,q0,_,g0⟩:=DataW.trod_int Try.underlying3 e0
 obtain ⟨n1,q1,_,g1⟩:=DataW.trod_int Try.underlying3 e1
 replace q0:[a]=[Value.int .i64 n0]:=q0
 replace q1:[b]=[Value.int .i64 n1]:=q1
 injection q0 with q0
 injection q1 with q1
 subst q0 q1
 exact ⟨⟨n0,n1⟩,qlo w ⟨n0,n1⟩,g0,g1⟩
section
variable {H:Type} {enc:TypeId × Value→H} {W:World} {d:DataW H} {ps:List MemPlace}
theorem qi6 {α:Type} {k:Kd α} {t e':TypeId} {p:List α→Prop} (hr:Wi (Kd.slice e' k) t p) {a:Option Addr} {len cap:Nat} (h:DataW.Trod enc Try.prog W 0 (fun _=>true) true t (.slice a len cap) d ps) :
  ∃ l:List α,len=l.length∧Kd.C k W a l.length l∧l.length≤cap∧p l:=by
 obtain ⟨fuel,hf⟩:=h
 obtain ⟨l,⟨A,c,e1,hc,hC⟩,hp⟩:=hr H enc W fuel _ _ hf
 replace e1:[Value.slice a len cap]=[Value.slice A l.length c]:=e1
 injection e1 with e1
 injection e1 with e1 e2 e3
 subst e1 e2 e3
 exact ⟨l,rfl,hC,hc,hp⟩
theorem qeZ {t e:TypeId} {a:Option Addr} {len cap:Nat} {ts:List TypeId} {ds:List (DataW H)} {j:Nat} {B:Nat}
  (hsz:(DataW.weightsEach Try.prog ts ds).all (· ≤ reachBytes)=true) (ht:ts[j]? = some t) (hd:ds[j]? = some d) (hu:Try.prog.underlying t=some (.slice e)) (hB:Try.prog.bytesOf e=B)
  (h:DataW.Trod enc Try.prog W 0 (fun _=>true) true t (.slice a len cap) d ps):len*B≤140737488351232:=by
 obtain ⟨fuel,hf⟩:=h
 rcases Deep.open_slice hu hf with ⟨hcs,_⟩|⟨a',len',cap',m,n,D,Pl,hcs,_,hl,_,hmm,hx,_⟩
 ·
  replace hcs:[Value.slice a len cap]=[Value.slice none 0 0]:=hcs
  injection hcs with hcs
  injection hcs with _ h2 _
  subst h2
  simp
 ·
  replace hcs:[Value.slice a len cap]=[Value.slice (some a') len' cap']:=hcs
  injection hcs with hcs
  injection hcs with _ h2 _
  subst h2
  injection hx with hx _
  rw [hx] at hd
  have z:=sized_slice hsz ht hd hu
  rw [hB] at z
  have hrb:reachBytes=140737488351232:=by decide
  rw [hrb] at z
  simp only [List.length_map,List.length_range] at z
  exact Nat.le_trans (Nat.mul_le_mul_right _ (by omega)) z
end
end Go.Proofs.Ytmhomdohhihlcaa.P
namespace Go.Proofs.Ytmhomdohhihlcaa.P
open Go.RowKit Go.Proofs.YtmhomdohhihlcaaW.PrintWords Go.Proofs.YtmhomdohhihlcaaW.PrintLast Go.Proofs.YtmhomdohhihlcaaW.PrintMore
section
theorem modP (a b:Int) (hb:0<b) (hb2:b≤4611686018427387904):YE.f a b=some (a % b):=by
 unfold YE.f
 rw [if_neg (by omega)]
 have h1:=Int.tmod_lt_of_pos a hb
 have h2:Int.tmod a b=a % b∨Int.tmod a b=a % b-b:=by
  rw [Int.tmod_eq_emod]
  split
  ·
   left;simp
  ·
   right
   have:(b.natAbs:Int)=b:=by omega
   rw [this]
 have h3:=Int.emod_nonneg a (by omega:b≠0)
 have h4:=Int.emod_lt_of_pos a hb
 rcases h2 with h2|h2
 ·
  rw [if_neg (by omega),h2]
 ·
  rw [if_pos (by omega),h2]
  congr 1
  unfold wrap64
  omega
theorem w64s {z:Int} (h0:0≤z) (h1:z≤1000000000):wrap64 z=z:=by unfold wrap64;omega
theorem modB (a b:Int) (hb:0<b) (hb2:b≤4611686018427387904):∃ m,YE.f a b=some m∧0≤m∧m<b :=
 ⟨a % b,modP a b hb hb2,Int.emod_nonneg a (by omega),Int.emod_lt_of_pos a hb⟩
theorem qpf (l:List Int) (a:Int) (hl:l.length*8≤140737488351232):∃ p,ZT.f l a=some p:=by
 unfold ZT.f
 by_cases h0:(l.length:Int)=0
 ·
  exact ⟨0,by rw [if_pos h0]⟩
 ·
  have h1:=Int.emod_nonneg a h0
  have h2:=Int.emod_lt_of_pos a (by omega:(0:Int)<l.length)
  exact ⟨rd l (a % l.length),by rw [if_neg h0,modP _ _ (by omega) (by omega),Option.bind_some,if_pos h1,if_pos h2]⟩
theorem qmg (lo hi a:Int) (h0:0≤lo) (h1:lo≤hi) (h2:hi≤1000000):∃ c,ZS.f lo hi a=some c∧lo≤c∧c≤hi:=by
 unfold ZS.f
 by_cases h:hi≤lo
 ·
  exact ⟨lo,by rw [if_pos h],by omega,by omega⟩
 ·
  have hw:wrap64 (wrap64 (hi-lo)+1)=hi-lo+1:=by unfold wrap64;omega
  obtain ⟨m,e,m0,m1⟩:=modB a (hi-lo+1) (by omega) (by omega)
  have hw2:wrap64 (lo+m)=lo+m:=by unfold wrap64;omega
  exact ⟨lo+m,by rw [if_neg h,hw,if_neg (by omega),e,Option.bind_some,hw2],by omega,by omega⟩
end
section
attribute [local go_sem] YF YH YY YZ Yq Yr YG YI
end
section
attribute [local go_sem] YF YH YY YZ Yq Yr YG YI
attribute [local go_sem high] qh9
end
section
theorem qbi (a b c:Int):Qj.f a b c=some (wi a b c):=by
 unfold Qj.f wi
 by_cases h:b≤a
 ·
  rw [if_pos h];simp [h]
 ·
  rw [if_neg h];simp [h]
theorem qbt (a b c:Int):Yi.f a b c=some (wi a b c):=by
 unfold Yi.f wi
 by_cases h:b≤a
 ·
  rw [if_pos h];simp [h]
 ·
  rw [if_neg h];simp [h]
def sp (a b h:Int):Bool:=decide (0≤a∧a≤b∧b≤h)
theorem qei (a b h:Int):ZG.f a b h=some (sp a b h):=by
 unfold ZG.f sp
 by_cases h1:0≤a
 ·
  rw [if_pos h1]
  by_cases h2:a≤b
  ·
   rw [if_pos h2];simp [h1,h2]
  ·
   rw [if_neg h2];simp [h2]
 ·
  rw [if_neg h1];simp [h1]
theorem XB (a b h:Int):YV.f a b 0 h=some (sp a b h):=by
 unfold YV.f
 rw [qbt,qbt]
 simp only [Option.bind_some]
 by_cases h1:wi a 0 h=true
 ·
  rw [if_pos h1]
  obtain ⟨h2,h3⟩:=OI.1 h1
  unfold wi sp
  congr 1
  rw [decide_eq_decide]
  omega
 ·
  rw [if_neg h1]
  unfold wi at h1
  unfold sp
  congr 1
  symm
  simp at h1 ⊢
  omega
theorem wr1 (i n:Nat) (h:i<n) (hn:(n:Int)≤9223372036854775807):wrap64 ((i:Int)+1)=((i+1:Nat):Int):=by unfold wrap64;omega
end
end Go.Proofs.Ytmhomdohhihlcaa.P
