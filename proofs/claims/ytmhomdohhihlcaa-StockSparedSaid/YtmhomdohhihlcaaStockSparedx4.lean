/- What the statement StockSpared leans on, part 5 of 5: contracts of the program's functions; conditions: none. -/
import Derived.Deep.RegionHeld3
import Derived.Deep.Slices
import Derived.ChangeSame
import Derived.OpenShut
import Derived.SizedLaws
import Derived.Lib.SmallJoins
import Derived.Test.YtmhomdohhihlcaaStockSparedx0
import Derived.Test.YtmhomdohhihlcaaStockSparedx1
import Derived.Test.YtmhomdohhihlcaaStockSparedx2
import Derived.Test.YtmhomdohhihlcaaStockSparedx3
set_option linter.unusedVariables false
set_option linter.unusedSimpArgs false
set_option linter.constructorNameAsVariable false
set_option linter.unusedSectionVars false
namespace Go.Proofs.Ytmhomdohhihlcaa.P
open Go.RowKit Go.Proofs.YtmhomdohhihlcaaW.PrintWords Go.Proofs.YtmhomdohhihlcaaW.PrintLast Go.Proofs.YtmhomdohhihlcaaW.PrintMore
section
attribute [local go_sem] Yn Yp YA YC Yb Yc Yo Yq
def G6.f  : Option ((List (List Int))):=some (([(([0,1]:List Int)),(([1,2]:List Int)),(([2,3]:List Int))]:List (List Int)))
set_option maxHeartbeats 8000000 in
set_option maxRecDepth 100000 in
theorem G6.calls  (r:List (List Int)) (w:World) (h:G6.f  = some r) :
  Calls Try.prog 63 #[] w fun e w' => ∃ v0_:Value,e = .returned (v0_)∧Kd.N (Kd.slice 3 (Kd.int .i64)) 37 w' w.heap.size (fun k_=>(w.heap.size≤k_)) v0_ r∧Below w.heap.size w w':=by
 have HB:=Q0.mk (Below.refl w.heap.size w)
 have H:(some (([(([0,1]:List Int)),(([1,2]:List Int)),(([2,3]:List Int))]:List (List Int))))=some r:=h
 clear h
 obtain ⟨qgx,qfP⟩:∃ y_:List Int,y_=(([0,1]:List Int)):=⟨_,rfl⟩
 replace H:(some (([qgx,(([1,2]:List Int)),(([2,3]:List Int))]:List (List Int))))=some r:=by first|(rw [qfP];with_reducible exact H)|(have H2_:=(Option.bind_some _ _).symm.trans H;rw [qfP];with_reducible exact H2_)|(have H2_:=(Option.bind_some _ _).symm.trans H;with_reducible exact H2_)|with_reducible exact H|(rw [qfP];exact H)|exact H
 have qop:=Q0.mk qfP
 clear qfP
 obtain ⟨qhS,qfQ⟩:∃ y_:List Int,y_=(([1,2]:List Int)):=⟨_,rfl⟩
 replace H:(some (([qgx,qhS,(([2,3]:List Int))]:List (List Int))))=some r:=by first|(rw [qfQ];with_reducible exact H)|(have H2_:=(Option.bind_some _ _).symm.trans H;rw [qfQ];with_reducible exact H2_)|(have H2_:=(Option.bind_some _ _).symm.trans H;with_reducible exact H2_)|with_reducible exact H|(rw [qfQ];exact H)|exact H
 have qoq:=Q0.mk qfQ
 clear qfQ
 obtain ⟨qjD,qfR⟩:∃ y_:List Int,y_=(([2,3]:List Int)):=⟨_,rfl⟩
 replace H:(some (([qgx,qhS,qjD]:List (List Int))))=some r:=by first|(rw [qfR];with_reducible exact H)|(have H2_:=(Option.bind_some _ _).symm.trans H;rw [qfR];with_reducible exact H2_)|(have H2_:=(Option.bind_some _ _).symm.trans H;with_reducible exact H2_)|with_reducible exact H|(rw [qfR];exact H)|exact H
 have qor:=Q0.mk qfR
 clear qfR
 obtain ⟨qAA,qfS⟩:∃ y_:List (List Int),y_=(([qgx,qhS,qjD]:List (List Int))):=⟨_,rfl⟩
 replace H:(some qAA)=some r:=by first|(rw [qfS];with_reducible exact H)|(have H2_:=(Option.bind_some _ _).symm.trans H;rw [qfS];with_reducible exact H2_)|(have H2_:=(Option.bind_some _ _).symm.trans H;with_reducible exact H2_)|with_reducible exact H|(rw [qfS];exact H)|exact H
 have qot:=Q0.mk qfS
 clear qfS
 obtain rfl:=Option.some.inj H
 go_enter Try.func63,Try.ntmps63
 go_wp2_with (first|((with_reducible refine QW (N:=1) rfl ?_);refine Kd.R_lit (Kd.int .i64) _ 3 ?hg (N:=1) ?hd (xs:=([0,1]:List Int)) (inner:=[.int .i64 0,.int .i64 1]) (ok:=fun _=>True) (okp:=fun _=>True) ?hr ?hp (fun _ hk=>hk) trivial (Below.refl _ _) (Nat.le_refl _) (by simp) ?_;(case hd=>rfl);(case hg=>rfl);(case hr=>first|(go_simp;done)|(go_simp;rfl));(case hp=>exact (Reps.one (show Kd.M (Kd.int .i64) _ _ _ 0 [.int .i64 0] from rfl) (Reps.one (show Kd.M (Kd.int .i64) _ _ _ 1 [.int .i64 1] from rfl) (Reps.none _ _))));intro qD5 w1 ho2 hb hg_ hnew_;clear hg_ hnew_;(first|rw [← qop.out] at ho2|(simp only [Int.reduceToNat] at ho2;rw [← qop.out] at ho2));have n0_:=Q0.mk (Kd.R_lower (Kd.R_newM (M:=fun k_=>(w.heap.size≤k_)) ho2 (Qf (by repeat (first|(with_reducible first|exact HB.out|apply Q3|apply Q1|apply Q6)|exact HB.out))) (fun k_ h_=>h_)) (Qf (by repeat (first|(with_reducible first|exact HB.out|apply Q3|apply Q1|apply Q6)|exact HB.out))));have n1_:=Q0.mk (Qm (by repeat (first|(with_reducible first|exact HB.out|apply Q3|apply Q1|apply Q6)|exact HB.out)) hb);clear HB;have Wi:=n0_;have HB:=n1_;clear n0_ n1_ hb ho2)|((with_reducible refine QW (N:=2) rfl ?_);refine Kd.R_lit (Kd.int .i64) _ 3 ?hg (N:=2) ?hd (xs:=([1,2]:List Int)) (inner:=[.int .i64 1,.int .i64 2]) (ok:=fun _=>True) (okp:=fun _=>True) ?hr ?hp (fun _ hk=>hk) trivial (Below.refl _ _) (Nat.le_refl _) (by simp) ?_;(case hd=>rfl);(case hg=>rfl);(case hr=>first|(go_simp;done)|(go_simp;rfl));(case hp=>exact (Reps.one (show Kd.M (Kd.int .i64) _ _ _ 1 [.int .i64 1] from rfl) (Reps.one (show Kd.M (Kd.int .i64) _ _ _ 2 [.int .i64 2] from rfl) (Reps.none _ _))));intro qD6 w3 ho4 hb hg_ hnew_;clear hg_ hnew_;(first|rw [← qoq.out] at ho4|(simp only [Int.reduceToNat] at ho4;rw [← qoq.out] at ho4));have n0_:=Q0.mk (Kd.R_elder' (by (with_reducible repeat (first|apply Kd.R_alloc|apply Kd.R_drewN|apply Kd.R_drew));exact Wi.out) (Kd.R_base ho4) hb);have n1_:=Q0.mk (Kd.R_lower (Kd.R_new' (Kd.R_newM (M:=fun k_=>(w.heap.size≤k_)) ho4 (Qf (by repeat (first|(with_reducible first|exact HB.out|apply Q3|apply Q1|apply Q6)|exact HB.out))) (fun k_ h_=>h_)) (Kd.R_lt (by (with_reducible repeat (first|apply Kd.R_alloc|apply Kd.R_drewN|apply Kd.R_drew));exact Wi.out))) (Qf (by repeat (first|(with_reducible first|exact HB.out|apply Q3|apply Q1|apply Q6)|exact HB.out))));have n2_:=Q0.mk (Qm (by repeat (first|(with_reducible first|exact HB.out|apply Q3|apply Q1|apply Q6)|exact HB.out)) hb);clear Wi HB;have Wi:=n0_;have qa0:=n1_;have HB:=n2_;clear n0_ n1_ n2_ hb ho4)|((with_reducible refine QW (N:=3) rfl ?_);refine Kd.R_lit (Kd.int .i64) _ 3 ?hg (N:=3) ?hd (xs:=([2,3]:List Int)) (inner:=[.int .i64 2,.int .i64 3]) (ok:=fun _=>True) (okp:=fun _=>True) ?hr ?hp (fun _ hk=>hk) trivial (Below.refl _ _) (Nat.le_refl _) (by simp) ?_;(case hd=>rfl);(case hg=>rfl);(case hr=>first|(go_simp;done)|(go_simp;rfl));(case hp=>exact (Reps.one (show Kd.M (Kd.int .i64) _ _ _ 2 [.int .i64 2] from rfl) (Reps.one (show Kd.M (Kd.int .i64) _ _ _ 3 [.int .i64 3] from rfl) (Reps.none _ _))));intro qD7 w5 ho6 hb hg_ hnew_;clear hg_ hnew_;(first|rw [← qor.out] at ho6|(simp only [Int.reduceToNat] at ho6;rw [← qor.out] at ho6));have n0_:=Q0.mk (Kd.R_elder' (by (with_reducible repeat (first|apply Kd.R_alloc|apply Kd.R_drewN|apply Kd.R_drew));exact Wi.out) (Kd.R_base ho6) hb);have n1_:=Q0.mk (Kd.R_elder' (by (with_reducible repeat (first|apply Kd.R_alloc|apply Kd.R_drewN|apply Kd.R_drew));exact qa0.out) (Kd.R_base ho6) hb);have n2_:=Q0.mk (Kd.R_lower (Kd.R_new' (Kd.R_new' (Kd.R_newM (M:=fun k_=>(w.heap.size≤k_)) ho6 (Qf (by repeat (first|(with_reducible first|exact HB.out|apply Q3|apply Q1|apply Q6)|exact HB.out))) (fun k_ h_=>h_)) (Kd.R_lt (by (with_reducible repeat (first|apply Kd.R_alloc|apply Kd.R_drewN|apply Kd.R_drew));exact Wi.out))) (Kd.R_lt (by (with_reducible repeat (first|apply Kd.R_alloc|apply Kd.R_drewN|apply Kd.R_drew));exact qa0.out))) (Qf (by repeat (first|(with_reducible first|exact HB.out|apply Q3|apply Q1|apply Q6)|exact HB.out))));have n3_:=Q0.mk (Qm (by repeat (first|(with_reducible first|exact HB.out|apply Q3|apply Q1|apply Q6)|exact HB.out)) hb);clear Wi qa0 HB;have Wi:=n0_;have qa0:=n1_;have qh5:=n2_;have HB:=n3_;clear n0_ n1_ n2_ n3_ hb ho6;obtain ⟨Ao7,co7,eo7⟩:=Kd.R_slice Wi.out;subst eo7;obtain ⟨Ao8,co8,eo8⟩:=Kd.R_slice qa0.out;subst eo8;obtain ⟨Ao9,co9,eo9⟩:=Kd.R_slice qh5.out;subst eo9)|((with_reducible refine QW (N:=4) rfl ?_);refine Kd.N_lit (Kd.slice 3 (Kd.int .i64)) _ 37 ?hg (N':=4) ?hd (xs:=([qgx,qhS,qjD]:List (List Int))) (inner:=[.slice Ao7 qgx.length co7,.slice Ao8 qhS.length co8,.slice Ao9 qjD.length co9]) (ok:=(fun k_=>(w.heap.size≤k_))) (okp:=(fun k_=>(w.heap.size≤k_))) ?hr ?hp (fun _ hk=>hk) ((show ∀ k_,w5.heap.size≤k_→(fun k_=>(w.heap.size≤k_)) k_ from fun k_ hk=>(Nat.le_trans (Qf (by repeat (first|(with_reducible first|exact HB.out|apply Q3|apply Q1|apply Q6)|exact HB.out))) hk)) _ (Nat.le_refl _)) (Below.refl _ _) (Nat.le_refl _) (by simp) ?_;(case hd=>rfl);(case hg=>rfl);(case hr=>first|(go_simp;done)|(go_simp;rfl));(case hp=>exact (Reps.one (show Kd.FK (Kd.slice 3 (Kd.int .i64)) _ _ qgx [.slice Ao7 qgx.length co7] from (Kd.FK_slice_mk (Kd.R_reads' (Kd.R_mono (ok':=(fun k_=>(w.heap.size≤k_))) (Wi.out) (fun k_ hk=>hk.1.1.1))).2.1 (Kd.R_F (Kd.R_mono (ok':=(fun k_=>(w.heap.size≤k_))) (Wi.out) (fun k_ hk=>hk.1.1.1))))) (Reps.one (show Kd.FK (Kd.slice 3 (Kd.int .i64)) _ _ qhS [.slice Ao8 qhS.length co8] from (Kd.FK_slice_mk (Kd.R_reads' (Kd.R_mono (ok':=(fun k_=>(w.heap.size≤k_))) (qa0.out) (fun k_ hk=>hk.1.1.1))).2.1 (Kd.R_F (Kd.R_mono (ok':=(fun k_=>(w.heap.size≤k_))) (qa0.out) (fun k_ hk=>hk.1.1.1))))) (Reps.one (show Kd.FK (Kd.slice 3 (Kd.int .i64)) _ _ qjD [.slice Ao9 qjD.length co9] from (Kd.FK_slice_mk (Kd.R_reads' (Kd.R_mono (ok':=(fun k_=>(w.heap.size≤k_))) (qh5.out) (fun k_ hk=>hk.1.1.1))).2.1 (Kd.R_F (Kd.R_mono (ok':=(fun k_=>(w.heap.size≤k_))) (qh5.out) (fun k_ hk=>hk.1.1.1))))) (Reps.none _ _)))));intro qD8 w10 qkL hb hg_ hnew_;clear hg_ hnew_;(first|rw [← qot.out] at qkL|(simp only [Int.reduceToNat] at qkL;rw [← qot.out] at qkL));have n0_:=Q0.mk (Kd.N_lower qkL (Qf (by repeat (first|(with_reducible first|exact HB.out|apply Q3|apply Q1|apply Q6)|exact HB.out))));have n1_:=Q0.mk (Qm (by repeat (first|(with_reducible first|exact HB.out|apply Q3|apply Q1|apply Q6)|exact HB.out)) hb);clear HB Wi qa0 qh5;have qqJ:=n0_;have HB:=n1_;clear n0_ n1_ hb qkL))
 go_ret
 exact ⟨_,by first|rfl|(simp [Qq,Qr]<;>rfl)|(simp [*,Qq,Qr]<;>rfl),by (with_reducible repeat (first|apply Kd.N_alloc|apply Kd.N_drewN|apply Kd.N_drew));exact qqJ.out,by repeat (first|(with_reducible first|exact HB.out|apply Q3|apply Q1|apply Q6)|exact HB.out)⟩
end
section
set_option maxRecDepth 100000
def qcp:List S68:=[⟨30,⟨2,2⟩⟩,⟨20,⟨3,4⟩⟩,⟨10,⟨4,6⟩⟩]
def qdS:List (List S25):=[[⟨60,70⟩,⟨30,40⟩],[⟨20,30⟩,⟨70,80⟩]]
def qgT:List S25:=[⟨45,50⟩,⟨50,55⟩]
def qcn:S39:=⟨[100,50,20],[800,700,500],[0,1,2],60,1⟩
def qco:S39:=⟨[60,60],[500,500],[1,1],50,0⟩
def qks:List YQ:=[⟨50,8⟩,⟨30,5⟩,⟨20,1⟩,⟨10,4⟩]
def qdR:List (List Int):=[[0,1],[1,2],[2,3]]
def UH:List (List (List Int)):=[[[90,80],[10,10]],[[0,0],[0,0]]]
theorem qi9:JV.f=some qcp:=by kernel_rfl
theorem qkz:G7.f=some qdS:=by kernel_rfl
theorem qlQ:Gg.f=some qgT:=by kernel_rfl
theorem qi8:ZZ.f=some ([100,50,20],[800,700,500],[0,1,2],60,1):=by kernel_rfl
theorem qcq:Jp.f=some ([qcn,qco],[40,80],UH):=by kernel_rfl
theorem qpv:GD.f=some qks:=by kernel_rfl
theorem qky:G6.f=some qdR:=by kernel_rfl
theorem qlO:QS.f 40 qcp 4 6=some (10,30,0):=by kernel_rfl
theorem qlP:QC.f 20 [100,50,20] [800,700,500] [0,1,2] 60 1 [30,30] [90,80]=some ([40,78],0):=by kernel_rfl
theorem qkv:Zn.f 40 [qcn,qco] [40,80] UH=some (7,0):=by kernel_rfl
theorem qku:YP.f 40 [qcn,qco] [40,80] UH 8=some (1,1,1,0):=by kernel_rfl
theorem qkw:Z3.f 10 [40,78] [40,78]=some true:=by kernel_rfl
theorem qkx:Z3.f 10 [0,2] [0,2]=some true:=by kernel_rfl
theorem qdT:YV.f 10 [⟨38,75⟩,⟨25,62⟩] [⟨38,75⟩,⟨25,62⟩]=some true:=by kernel_rfl
theorem qkt:Qn.f qks qdR 2=some ([0,2],110,18,0):=by kernel_rfl
theorem qi7:Qs.f 20 qdS qgT=some ([⟨38,75⟩,⟨25,62⟩],0):=by kernel_rfl
end
section
attribute [local go_sem high] qkp
def Y7.f:Option Bool:=some true
structure qj2 (p:Prop):Prop where
 out:p
theorem V_C {α:Type} {d:Kd α} {e:Nat} {w:World} {b:Nat} {ok:Nat→Prop} {v:Value} {xs:List α} (h:Kd.V d e w b ok v xs):∃ A c,v = .slice A xs.length c∧xs.length≤c∧Kd.C d w A xs.length xs:=by
 obtain ⟨A,c,hv,hl,hf⟩:=h
 exact ⟨A,c,hv,hl,Kd.F_now hf⟩
theorem qfc {W:World} {o:Obj} {k:Nat} (h:W.heap.size=k):(W.alloc o).heap[k]? = some o:=by subst h;exact World.alloc_heap_new W o
theorem qhU {W:World} {g:Nat} {a b:Int} (h:W.heap[g]? = some (.cells #[.int .i64 a,.int .i64 b] 3 (0,0))):Kd.C (Kd.int .i64) W (some ⟨g,0,none⟩) 2 [a,b]:=by
 refine ⟨rfl,by decide,fun _=>⟨_,rfl,fun j p hj=>⟨[.int .i64 p],rfl,rfl,fun i u hu => ?_⟩⟩⟩
 have hj2:j<2:=(List.getElem?_eq_some_iff.1 hj).1
 have hi:i=0:=by have:=(List.getElem?_eq_some_iff.1 hu).1;simpa using this
 subst hi
 have hu2:Value.int .i64 p=u:=by simpa using hu
 rw [KV,Q8 h]
 subst hu2
 match j,hj2,hj with
 | 0,_,hj=>cases hj;rfl
 | 1,_,hj=>cases hj;rfl
theorem qly {W:World} {g:Nat} {a b a' b':Int} (h:W.heap[g]? = some (.cells #[.int .i64 a,.int .i64 b,.int .i64 a',.int .i64 b'] 25 (0,0))):Kd.C k25 W (some ⟨g,0,none⟩) 2 [⟨a,b⟩,⟨a',b'⟩]:=by
 refine ⟨rfl,by decide,fun _=>⟨_,rfl,fun j p hj=>⟨[.int .i64 p.f0,.int .i64 p.f1],rfl,qpL _ _,fun i u hu => ?_⟩⟩⟩
 have hj2:j<2:=(List.getElem?_eq_some_iff.1 hj).1
 have hi:i<2:=(List.getElem?_eq_some_iff.1 hu).1
 rw [KV,Q8 h]
 match j,hj2,hj,i,hi,hu with
 | 0,_,hj,0,_,hu=>cases hj;cases hu;rfl
 | 0,_,hj,1,_,hu=>cases hj;cases hu;rfl
 | 1,_,hj,0,_,hu=>cases hj;cases hu;rfl
 | 1,_,hj,1,_,hu=>cases hj;cases hu;rfl
set_option maxHeartbeats 8000000 in
set_option maxRecDepth 100000 in
theorem Y7.calls (r:Bool) (w:World) (h:Y7.f=some r) :
  Calls Try.prog 21 #[] w fun e w'=>e = .returned (.bool r)∧Below w.heap.size w w':=by
 obtain rfl:true=r:=Option.some.inj h
 clear h
 have qbf:=Try.underlying25
 go_enter Try.func21,Try.ntmps21
 have B0:=Below.refl w.heap.size w
 go_wp2_with (first
  | (go_at_call 59;refine (JV.calls _ _ qi9).mono ?_;rintro e w1 ⟨v,rfl,hv,hb1⟩;obtain ⟨A1,c1,rfl,hc1,hC1⟩:=Kd.R_reads hv;have B1:=B0.trans (hb1.mono B0.size);clear hv hb1)
  | (go_at_call 19;refine (QS.calls 40 A1 c1 qcp 4 6 10 30 0 _ hC1 hc1 qlO).mono ?_;rintro e w2 ⟨rfl,hb2⟩;have B2:=B1.trans (hb2.mono B1.size);clear hC1 hc1 hb2)
  | (go_at_call 61;refine (G7.calls _ _ qkz).mono ?_;rintro e w3 ⟨v,rfl,hv,hb3⟩;obtain ⟨A3,c3,rfl,hc3,hC3⟩:=Kd.N_reads hv;have B3:=(Q3 B2 _).trans (hb3.mono (Q3 B2 _).size);have K3:=Qe (World.alloc_heap_new w2 _) hb3;clear hv)
  | (go_at_call 60;refine (Gg.calls _ _ qlQ).mono ?_;rintro e w4 ⟨v,rfl,hv,hb4⟩;obtain ⟨A4,c4,rfl,hc4,hC4⟩:=Kd.R_reads hv;have B4:=B3.trans (hb4.mono B3.size);have qrn:=Kd.C_below hC3 hb4;have K4:=Qe K3 hb4;clear hv)
  | (go_at_call 22;refine (Qs.calls 20 A3 c3 qdS A4 c4 qgT [⟨38,75⟩,⟨25,62⟩] 0 _ qrn hc3 hC4 hc4 qi7).mono ?_;rintro e w5 ⟨v,rfl,hv,hb5⟩;obtain ⟨A5,c5,rfl,hc5,hC5⟩:=V_C hv;have B5:=B4.trans (hb5.mono B4.size);have K5:=Qe K4 hb5;clear K3 K4 hC3 qrn hC4 hc3 hc4 hv hb3 hb4 hb5)
  | (go_at_call 57;refine (ZZ.calls _ _ _ _ _ _ qi8).mono ?_;rintro e w6 ⟨u0,u1,u2,rfl,h0,h1,h2,hb6⟩;obtain ⟨A60,c60,rfl,qrz,qrs⟩:=Kd.R_reads h0;obtain ⟨A61,c61,rfl,qrA,qrt⟩:=Kd.R_reads h1;obtain ⟨A62,c62,rfl,qrB,qru⟩:=Kd.R_reads h2;have B6:=B5.trans (hb6.mono B5.size);have K6:=Qe K5 hb6;have qro:=Kd.C_below hC5 hb6;clear K5 h0 h1 h2 hC5 hb6)
  | (go_at_call 25;refine (QC.calls 20 A60 c60 [100,50,20] A61 c61 [800,700,500] A62 c62 [0,1,2] 60 1 _ 2 [30,30] _ 2 [90,80] [40,78] 0 _ ?q1 qrz ?q2 qrA ?q3 qrB ?q4 (Nat.le_refl 2) ?q5 (Nat.le_refl 2) qlP).mono ?_;(case q1=>exact Kd.C_alloc (Kd.C_alloc qrs _) _);(case q2=>exact Kd.C_alloc (Kd.C_alloc qrt _) _);(case q3=>exact Kd.C_alloc (Kd.C_alloc qru _) _);(case q4=>exact qhU (Q2 (World.alloc_heap_new w6 _) _));(case q5=>refine qhU ?_;(have:=World.alloc_heap_new (w6.alloc (.cells #[.int .i64 30,.int .i64 30] 3)) (.cells #[.int .i64 90,.int .i64 80] 3));rwa [World.size_alloc] at this);rintro e w7 ⟨v,rfl,hv,hb7⟩;obtain ⟨A7,c7,rfl,hc7,hC7⟩:=V_C hv;have B7:=(Q3 (Q3 B6 _) _).trans (hb7.mono (Q3 (Q3 B6 _) _).size);have K7:=Qe (Q2 (Q2 K6 _) _) hb7;have qrp:=Kd.C_below (Kd.C_alloc (Kd.C_alloc qro _) _) hb7;clear qrs qrt qru qrz qrA qrB qro K6 hv hb7)
  | (go_at_call 58;refine (Jp.calls _ _ _ _ qcq).mono ?_;rintro e w8 ⟨u0,u1,u2,rfl,h0,h1,h2,hb8⟩;obtain ⟨A80,c80,rfl,qkE,qkA⟩:=Kd.N_reads h0;obtain ⟨A81,c81,rfl,qkF,qkB⟩:=Kd.R_reads h1;obtain ⟨A82,c82,rfl,qkG,qkC⟩:=Kd.N_reads h2;have B8:=B7.trans (hb8.mono B7.size);have K8:=Qe K7 hb8;have qrq:=Kd.C_below qrp hb8;have qrw:=Kd.C_below hC7 hb8;clear h0 h1 h2 qrp hC7 K7 hb8)
  | (go_at_call 28;refine (Zn.calls 40 A80 c80 [qcn,qco] A81 c81 [40,80] A82 c82 UH 7 0 _ qkA qkE qkB qkF qkC qkG qkv).mono ?_;rintro e w9 ⟨rfl,hb9⟩;have B9:=B8.trans (hb9.mono B8.size);have K9:=Qe K8 hb9;have qrr:=Kd.C_below qrq hb9;have qrx:=Kd.C_below qrw hb9;clear qkA qkB qkC qkE qkF qkG qrq qrw K8 hb9))
 have hSb:∀ z:World,Below w9.heap.size w9 z→z.cell? ⟨w2.heap.size,0,none⟩=some (.int .i64 10)∧z.cell? ⟨w2.heap.size,1,none⟩=some (.int .i64 30)∧Below w9.heap.size w9 z:=fun z hz =>
  ⟨(Q8 (Qe K9 hz) 0).trans rfl,(Q8 (Qe K9 hz) 1).trans rfl,hz⟩
 have HSb:=Q0.mk hSb
 have H59:=Q0.mk qrr
 have H79:=Q0.mk qrx
 have HB9:=Q0.mk B9
 clear hSb qrr qrx B0 B1 B2 B3 B4 B5 B6 B7 B8 B9 K9
 go_region_held3 (fun z=>z.cell? ⟨w2.heap.size,0,none⟩=some (.int .i64 10)∧z.cell? ⟨w2.heap.size,1,none⟩=some (.int .i64 30)∧Below w9.heap.size w9 z)
  (first|exact HSb.out _ (Yr (Below.refl _ _))|(refine HSb.out _ (Q3 ?hk _);(case hk=>exact (And.right (And.right ‹_∧_∧Below w9.heap.size w9 _›))))|(refine HSb.out _ (Q1 ?hk _);(case hk=>exact (And.right (And.right ‹_∧_∧Below w9.heap.size w9 _›))))|(refine HSb.out _ (Below.trans ?hk1 (hbz.mono ?hk2));(case hk1=>exact (And.right (And.right ‹_∧_∧Below w9.heap.size w9 _›)));(case hk2=>exact (And.right (And.right ‹_∧_∧Below w9.heap.size w9 _›)).size)))
  (first
   | (go_at_call 43;refine (QA.calls _ _ _ _ _ rfl).mono ?_;rintro e wz ⟨rfl,hbz⟩)
   | (go_at_call 24;refine (YV.calls 10 A5 c5 [⟨38,75⟩,⟨25,62⟩] _ 2 [⟨38,75⟩,⟨25,62⟩] true _ ?q1 hc5 ?q2 (Nat.le_refl 2) qdT).mono ?_;(case q1=>refine Kd.C_below H59.out ?hk;(case hk=>exact (And.right (And.right ‹_∧_∧Below w9.heap.size w9 _›))));(case q2=>refine qly ?_;exact World.alloc_heap_new _ _);rintro e wz ⟨rfl,⟨nd,rfl⟩⟩)
   | (go_at_call 27;refine (Z3.calls 10 A7 c7 [40,78] _ 2 [40,78] true _ ?q1 hc7 ?q2 (Nat.le_refl 2) qkw).mono ?_;(case q1=>refine Kd.C_below H79.out ?hk;(case hk=>exact (And.right (And.right ‹_∧_∧Below w9.heap.size w9 _›))));(case q2=>refine qhU (qfc ?hs);(case hs=>first|rfl|exact World.size_alloc _ _));rintro e wz ⟨rfl,⟨nd,rfl⟩⟩))
 go_wp2_with (go_at_call 58;refine qj2.out ?_)
 refine qj2.mk ?_
 refine (Jp.calls _ _ _ _ qcq).mono ?_
 rintro e wa ⟨u0,u1,u2,rfl,h0,h1,h2,hba⟩
 have Ba:Below w.heap.size w wa:=by
  refine Below.trans ?_ (hba.mono ?_)
  ·
   exact HB9.out.trans ((And.right (And.right ‹_∧_∧Below w9.heap.size w9 _›)).mono HB9.out.size)
  ·
   exact (HB9.out.trans ((And.right (And.right ‹_∧_∧Below w9.heap.size w9 _›)).mono HB9.out.size)).size
 obtain ⟨A80,c80,rfl,qkE,qkA⟩:=Kd.N_reads h0
 obtain ⟨A81,c81,rfl,qkF,qkB⟩:=Kd.R_reads h1
 obtain ⟨A82,c82,rfl,qkG,qkC⟩:=Kd.N_reads h2
 clear h0 h1 h2 hba
 go_wp2_with (first
  | (go_at_call 32;refine (YP.calls 40 A80 c80 [qcn,qco] A81 c81 [40,80] A82 c82 UH 8 1 1 1 0 _ qkA qkE qkB qkF qkC qkG qku).mono ?_;rintro e wb ⟨rfl,hbb⟩;have Bb:=Ba.trans (hbb.mono Ba.size);clear qkA qkB qkC qkE qkF qkG hbb)
  | (go_at_call 62;refine (GD.calls _ _ qpv).mono ?_;rintro e wc ⟨v,rfl,hv,hbc⟩;obtain ⟨Ac,cc,rfl,hcc,hCc⟩:=Kd.R_reads hv;have Bc:=Bb.trans (hbc.mono Bb.size);clear hv hbc)
  | (go_at_call 63;refine (G6.calls _ _ qky).mono ?_;rintro e wd ⟨v,rfl,hv,hbd⟩;obtain ⟨Ad,cd,rfl,hcd,hCd⟩:=Kd.N_reads hv;have Bd:=Bc.trans (hbd.mono Bc.size);have hCc':=Kd.C_below hCc hbd;clear hv hbd hCc)
  | (go_at_call 40;refine (Qn.calls Ac cc qks Ad cd qdR 2 [0,2] 110 18 0 _ hCc' hcc hCd hcd qkt).mono ?_;rintro e we ⟨v,rfl,hv,hbe⟩;obtain ⟨Ae,ce,rfl,hce,hCe⟩:=V_C hv;have Be:=Bd.trans (hbe.mono Bd.size);clear hv hbe hCc' hCd hcc hcd)
  | (go_at_call 27;refine (Z3.calls 10 Ae ce [0,2] _ 2 [0,2] true _ ?q1 hce ?q2 (Nat.le_refl 2) qkx).mono ?_;(case q1=>exact Kd.C_alloc hCe _);(case q2=>refine qhU (qfc ?hs);(case hs=>rfl));rintro e wf ⟨rfl,⟨ndf,rfl⟩⟩))
 go_ret
 exact ⟨rfl,Q1 (Q3 Be _) _⟩
end
section
attribute [local go_sem] Yn Yp YA YC Yb Yc Yo Yq
theorem qaw (A:Option Addr) (n m c:Nat):(Value.slice A n c).ownBlock=(Value.slice A m c).ownBlock:=by cases A<;>rfl
mutual
def Qa.j0:Nat→List (YQ)→List (List Int)→Int→List Int→Int→Int→Int→Bool→Int→Int→Option (Bool)
 | 0,_,_,_,_,_,_,_,_,_,_=>none
 | k+1,x0,x1,x7,x8,x9,x10,x11,x42,UP,OL=>if x42=true then (if x11=94 then (if (x8.length:Int)=0 then (if x9=0 then (if x10=0 then ((Y7.f).bind fun qdu=>(some qdu)) else (some false)) else (some false)) else (some false)) else (some false)) else ((Qt.f k x8 (x1.length:Int)).bind fun qba=>(if qba=true then (Qa.j1 k x0 x1 x7 x8 x9 x10 (decide ((x8.length:Int)>x7)) UP OL) else (Qa.j1 k x0 x1 x7 x8 x9 x10 true UP OL)))
def Qa.j1:Nat→List (YQ)→List (List Int)→Int→List Int→Int→Int→Bool→Int→Int→Option (Bool)
 | 0,_,_,_,_,_,_,_,_,_=>none
 | k+1,x0,x1,x7,x8,x9,x10,x71,UP,OL=>if x71=true then (some false) else (Qa.l0 k x0 x1 x7 x8 x9 x10 0 UP OL)
def Qa.l0:Nat→List (YQ)→List (List Int)→Int→List Int→Int→Int→Int→Int→Int→Option (Bool)
 | 0,_,_,_,_,_,_,_,_,_=>none
 | k+1,x0,x1,x7,x8,x9,x10,x12,UP,OL=>if x12<(x1.length:Int) then (if 0≤x12 then ((Qt.f k (QB x1 x12) (x0.length:Int)).bind fun qdv=>(if qdv=true then (Qa.l0 k x0 x1 x7 x8 x9 x10 (wrap64 (x12+1)) UP OL) else (some false))) else (none)) else ((Qp.f k x0 x1 x8).bind fun qck=>((Zj.f OL (shl .i64 1 (x1.length:Int))).bind fun Xg=>((QN.f k Xg (x1.length:Int)).bind fun ZP=>(if 0≤(mn (ZP.length:Int) x7) then (if (mn (ZP.length:Int) x7)≤(ZP.length:Int) then ((some (ZP.take ((mn (ZP.length:Int) x7):Int).toNat:List Int)).bind fun YO=>((Qp.f k x0 x1 YO).bind fun QM=>(if qck.1=x9 then (if qck.2=x10 then (if QM.1>x9 then (Qa.j3 k x8 x9 x10 YO QM.1 QM.2 true) else (if QM.1=x9 then (Qa.j3 k x8 x9 x10 YO QM.1 QM.2 (decide (QM.2<x10))) else (Qa.j3 k x8 x9 x10 YO QM.1 QM.2 false))) else (Qa.j3 k x8 x9 x10 YO QM.1 QM.2 true)) else (Qa.j3 k x8 x9 x10 YO QM.1 QM.2 true)))) else (none)) else (none)))))
def Qa.j3:Nat→List Int→Int→Int→List Int→Int→Int→Bool→Option (Bool)
 | 0,_,_,_,_,_,_,_=>none
 | k+1,x8,x9,x10,x15,x16,x17,qAv=>if qAv=true then (some false) else (if x16=x9 then (if x17=x10 then (if (x15.length:Int)>(x8.length:Int) then ((Y7.f).bind fun qdw=>(some qdw)) else (if (x15.length:Int)=(x8.length:Int) then ((Qy.f k x15 x8).bind fun qbb=>(if qbb=true then (some false) else ((Y7.f).bind fun Xh=>(some Xh)))) else (some false))) else ((Y7.f).bind fun qdx=>(some qdx))) else ((Y7.f).bind fun qdy=>(some qdy)))
end
def Qa.f (k:Nat) (l0:List (YQ)) (l1:List (List Int)) (JG:Int) (JH:Int):Option (Bool):=(Zj.f JG 9).bind fun ZF=>((Qn.f l0 l1 ZF).bind fun Zz=>(if Zz.2.2.2=0 then (if (l0.length:Int)>12 then (Qa.j0 k l0 l1 ZF Zz.1 Zz.2.1 Zz.2.2.1 Zz.2.2.2 true JG JH) else (Qa.j0 k l0 l1 ZF Zz.1 Zz.2.1 Zz.2.2.1 Zz.2.2.2 (decide ((l1.length:Int)>8)) JG JH)) else (Qa.j0 k l0 l1 ZF Zz.1 Zz.2.1 Zz.2.2.1 Zz.2.2.2 true JG JH)))
def Qa.T13:Bool × List (List Nat × List Nat):=(true,[([],[]),([0],[0]),([],[]),([2],[2]),([3],[3]),([1,4],[1,4]),([],[]),([6],[6]),([5,7,5],[5,7]),([8,8,0,1,2,3,4,5,6,7,8],[8])])
def Qa.B13:List Nat:=[0,1,0,4,12,31,0,64,255,511]
theorem Qa.tab13:rtab .any (qfY Try.f17 13)=Qa.T13:=by kernel_rfl
theorem Qa.bits13:Oz Qa.T13.2 Qa.B13=true:=by kernel_rfl
set_option maxHeartbeats 8000000 in
set_option maxRecDepth 100000 in
theorem Qa.calls (k:Nat) (A0:Option Addr) (c0:Nat) (l0:List (YQ)) (A1:Option Addr) (c1:Nat) (l1:List (List Int)) (JG:Int) (JH:Int) (r:Bool) (w:World) (hr0:Kd.C W7 w A0 l0.length l0) (hc0:l0.length≤c0) (hr1:Kd.C (Kd.slice 3 (Kd.int .i64)) w A1 l1.length l1) (hc1:l1.length≤c1) (h:Qa.f k l0 l1 JG JH=some r) :
  Calls Try.prog 17 #[.slice A0 l0.length c0,.slice A1 l1.length c1,.agg #[.int .i64 JG,.int .i64 JH]] w fun e w'=>e = .returned (.bool r)∧Below w.heap.size w w':=by
 have qDv:=Try.underlying23
 have HR0:=Q0.mk hr0
 have HC0:=Q0.mk hc0
 clear hr0 hc0
 have HR1:=Q0.mk hr1
 have HC1:=Q0.mk hc1
 clear hr1 hc1
 have HB:=Q0.mk (Below.refl w.heap.size w)
 have H:((Zj.f JG 9).bind fun ZF=>((Qn.f l0 l1 ZF).bind fun Zz=>(if Zz.2.2.2=0 then (if (l0.length:Int)>12 then (Qa.j0 k l0 l1 ZF Zz.1 Zz.2.1 Zz.2.2.1 Zz.2.2.2 true JG JH) else (Qa.j0 k l0 l1 ZF Zz.1 Zz.2.1 Zz.2.2.1 Zz.2.2.2 (decide ((l1.length:Int)>8)) JG JH)) else (Qa.j0 k l0 l1 ZF Zz.1 Zz.2.1 Zz.2.2.1 Zz.2.2.2 true JG JH))))=some r:=h
 clear h
 replace H:=Option.bind_eq_some_iff.mp H
 obtain ⟨ZF,A40,H⟩:=H
 replace H:((Qn.f l0 l1 ZF).bind fun Zz=>(if Zz.2.2.2=0 then (if (l0.length:Int)>12 then (Qa.j0 k l0 l1 ZF Zz.1 Zz.2.1 Zz.2.2.1 Zz.2.2.2 true JG JH) else (Qa.j0 k l0 l1 ZF Zz.1 Zz.2.1 Zz.2.2.1 Zz.2.2.2 (decide ((l1.length:Int)>8)) JG JH)) else (Qa.j0 k l0 l1 ZF Zz.1 Zz.2.1 Zz.2.2.1 Zz.2.2.2 true JG JH)))=some r:=H
 have A4:=Q0.mk A40
 clear A40
 replace H:=Option.bind_eq_some_iff.mp H
 obtain ⟨⟨Yz,Yv,YN,Oa⟩,A50,H⟩:=H
 replace H:(if Oa=0 then (if (l0.length:Int)>12 then (Qa.j0 k l0 l1 ZF Yz Yv YN Oa true JG JH) else (Qa.j0 k l0 l1 ZF Yz Yv YN Oa (decide ((l1.length:Int)>8)) JG JH)) else (Qa.j0 k l0 l1 ZF Yz Yv YN Oa true JG JH))=some r:=H
 have A5:=Q0.mk A50
 clear A50
 have HC6:=Q0.mk H
 clear H
 go_enter Try.func17,Try.ntmps17
 go_upto_region 3 with (first|((with_reducible refine QW (N:=5) rfl ?_);(try (refine Gq (by rfl) ?_;dsimp only));refine Yw ?hg (N:=5) ?hd (cs:=#[.int .i64 JG,.int .i64 JH]) (t:=23) ?hr ?_;(case hd=>rfl);(case hg=>rfl);(case hr=>first|(go_simp;done)|(go_simp;rfl));intro Jz hg w7 hbox hb;have n0_:=Q0.mk (Qm (by repeat (first|(with_reducible first|exact HB.out|apply Q3|apply Q1|apply Q6)|exact HB.out)) hb);have n1_:=Q0.mk (hbox);have n2_:=Q0.mk ((by rw [hg];exact (Qf (by repeat (first|(with_reducible first|exact HB.out|apply Q3|apply Q1|apply Q6)|exact HB.out))):w.heap.size≤Jz));have n3_:=n2_;clear HB;have HB:=n0_;have YW:=n1_;have qzc:=n2_;have ZA:=n3_;clear n0_ n1_ n2_ n3_ hb hbox hg;have Wq:w7.cell? ⟨Jz,0,none⟩=some (.int .i64 JG):=(Q8 YW.out 0).trans rfl;have Wr:w7.cell? ⟨Jz,1,none⟩=some (.int .i64 JH):=(Q8 YW.out 1).trans rfl;have Ws:=Q9 YW.out 0;have Wt:=Q9 YW.out 1)|((with_reducible refine Qx (f:=36) rfl ?_);refine YL (some 21) rfl rfl Try.func36 (by kernel_rfl) rfl #[.int .i64 JG,.int .i64 9] rfl (by (try simp only [List.map_toArray,List.map_cons,List.map_nil]);first|done|rfl|(simp only [List.length_drop,List.length_take];rfl)) ?_;(with_reducible refine (Zj.calls JG 9 ZF _ A4.out).mono ?_);rintro e w' ⟨rfl,⟨nd,rfl⟩⟩;refine ⟨_,rfl,?_⟩)|((with_reducible refine Qx (f:=40) rfl ?_);refine YL (some 26) rfl rfl Try.func40 (by kernel_rfl) rfl #[.slice A0 l0.length c0,.slice A1 l1.length c1,.int .i64 ZF] rfl (by (try simp only [List.map_toArray,List.map_cons,List.map_nil]);first|done|rfl|(simp only [List.length_drop,List.length_take];rfl)) ?_;(with_reducible refine (Qn.calls _ _ l0 _ _ l1 ZF Yz Yv YN Oa _ ?side1 ?side2 ?side3 ?side4 A5.out).mono ?_);(case side1=>repeat (first|exact (Kd.C_below HR0.out (by repeat (first|(with_reducible first|exact HB.out|apply Q3|apply Q1|apply Q6|refine Q5 ?_ ZA.out)|exact HB.out)))|(with_reducible refine Kd.C_alloc ?_ _)|(with_reducible refine Kd.C_drewN ?_ _)|(with_reducible refine Kd.C_drew ?_)));(case side2=>exact HC0.out);(case side3=>repeat (first|exact (Kd.C_below HR1.out (by repeat (first|(with_reducible first|exact HB.out|apply Q3|apply Q1|apply Q6|refine Q5 ?_ ZA.out)|exact HB.out)))|(with_reducible refine Kd.C_alloc ?_ _)|(with_reducible refine Kd.C_drewN ?_ _)|(with_reducible refine Kd.C_drew ?_)));(case side4=>exact HC1.out);rintro e w9 ⟨qlj,rfl,ho0,hb⟩;refine ⟨_,rfl,?_⟩;have n0_:=Q0.mk (Kd.V_lower (Kd.V_mono (ok':=fun k_=>k_≠Jz) ho0 (fun k_ hk_=>(Kd.freshB (g:=Jz) (by (with_reducible repeat (first|refine Q4 ?_ _|refine Q7 ?_|refine Q2 ?_ _));exact YW.out) k_ hk_))) (Qf (by repeat (first|(with_reducible first|exact HB.out|apply Q3|apply Q1|apply Q6|refine Q5 ?_ ZA.out)|exact HB.out))));have n1_:=Q0.mk (Qe (g:=Jz) (by (with_reducible repeat (first|refine Q4 ?_ _|refine Q7 ?_|refine Q2 ?_ _));exact YW.out) hb);have n2_:=Q0.mk (Qm (by repeat (first|(with_reducible first|exact HB.out|apply Q3|apply Q1|apply Q6|refine Q5 ?_ ZA.out)|exact HB.out)) hb);clear YW HB;have qgE:=n0_;have YW:=n1_;have HB:=n2_;clear n0_ n1_ n2_;(try clear hb);(try clear hb2);(try clear hk);(try clear hi);(try clear ho0)))
 (try simp only [Act.put,List.setIfInBounds_toArray,List.set_cons_zero,List.set_cons_succ])
 go_cut [42] (fun v42 wc => ∃ (kq:Nat) (qiT:Bool),v42 = .bool qiT∧Q0 (Qa.j0 kq l0 l1 ZF Yz Yv YN Oa qiT JG JH=some r)∧Q0 (kq≤k)∧Q0 (Kd.V (Kd.int .i64) 3 wc w.heap.size (fun k_=>k_≠Jz) qlj Yz)∧Q0 (wc.heap[Jz]? = some (.cells #[.int .i64 JG,.int .i64 JH] 23 (0,0)))∧Q0 (Below w.heap.size w wc))
 case first =>
  have H:=HC6.out
  clear HC6
  by_cases c10:Oa=0
  ·
   rw [if_pos c10] at H
   have c10b0:(Oa==0)=true:=beq_iff_eq.mpr c10
   have c10b1:(Oa != 0)=false:=bne_eq_false_iff_eq.mpr c10
   clear c10
   (first|rw [c10b0]|(simp only [Yj,Yu];rw [c10b0])|skip)
   by_cases c11:(l0.length:Int)>12
   ·
    rw [if_pos c11] at H;have c11b0:decide (12<(l0.length:Int))=true:=decide_eq_true c11;have c11b1:decide (12<l0.length)=true:=decide_eq_true (by omega);clear c11;have H':=Q0.mk H;clear H
    go_wp2
    go_meet
    case rel=>exact ⟨_,(true),(by first|rfl|(simp;done)|(simp [*];done)),H',⟨by first|omega|exact Nat.le_refl _⟩,⟨by (with_reducible repeat (first|apply Kd.V_alloc|apply Kd.V_drewN|apply Kd.V_drew));exact qgE.out⟩,⟨by (with_reducible repeat (first|refine Q4 ?_ _|refine Q7 ?_|refine Q2 ?_ _));exact YW.out⟩,⟨by repeat (first|(with_reducible first|exact HB.out|apply Q3|apply Q1|apply Q6|refine Q5 ?_ ZA.out)|exact HB.out)⟩⟩
   rw [if_neg c11] at H
   have c11b0:decide (12<(l0.length:Int))=false:=decide_eq_false c11
   have c11b1:decide (12<l0.length)=false:=decide_eq_false (by omega)
   clear c11
   have H':=Q0.mk H
   clear H
   go_wp2
   go_meet
   case rel=>exact ⟨_,(decide ((l1.length:Int)>8)),(by first|rfl|(simp;done)|(simp [*];done)),H',⟨by first|omega|exact Nat.le_refl _⟩,⟨by (with_reducible repeat (first|apply Kd.V_alloc|apply Kd.V_drewN|apply Kd.V_drew));exact qgE.out⟩,⟨by (with_reducible repeat (first|refine Q4 ?_ _|refine Q7 ?_|refine Q2 ?_ _));exact YW.out⟩,⟨by repeat (first|(with_reducible first|exact HB.out|apply Q3|apply Q1|apply Q6|refine Q5 ?_ ZA.out)|exact HB.out)⟩⟩
  rw [if_neg c10] at H
  have c10b0:(Oa==0)=false:=beq_eq_false_iff_ne.mpr c10
  have c10b1:(Oa != 0)=true:=bne_iff_ne.mpr c10
  (first|rw [c10b0]|(simp only [Yj,Yu];rw [c10b0])|skip)
  have H':=Q0.mk H
  clear H
  go_wp2
  go_meet
  case rel=>exact ⟨_,(true),(by first|rfl|(simp;done)|(simp [*];done)),H',⟨by first|omega|exact Nat.le_refl _⟩,⟨by (with_reducible repeat (first|apply Kd.V_alloc|apply Kd.V_drewN|apply Kd.V_drew));exact qgE.out⟩,⟨by (with_reducible repeat (first|refine Q4 ?_ _|refine Q7 ?_|refine Q2 ?_ _));exact YW.out⟩,⟨by repeat (first|(with_reducible first|exact HB.out|apply Q3|apply Q1|apply Q6|refine Q5 ?_ ZA.out)|exact HB.out)⟩⟩
 case rest =>
  clear HC6
  try clear c1
  try clear p2
  try clear c3
  try clear c4
  try clear c10
  try clear c10b0
  try clear c10b1
  try clear c11
  try clear c11b0
  try clear c11b1
  try clear Wq
  try clear Wr
  try clear Ws
  try clear Wt
  obtain ⟨kq,qiT,rfl,HA,HJ5,HO_8,YW,HB⟩:=hcut
  cases kq with
  | zero=>exact absurd HA.out (by simp [Qa.j0])
  | succ kj5 =>
   have H:=HA.out
   clear HA
   simp only [Qa.j0] at H
   by_cases c12:qiT=true
   ·
    subst c12
    have H1:(if Oa=94 then (if (Yz.length:Int)=0 then (if Yv=0 then (if YN=0 then ((Y7.f).bind fun qdu=>(some qdu)) else (some false)) else (some false)) else (some false)) else (some false))=some r:=by rw [if_pos rfl] at H;exact H
    clear H;have H:=H1;clear H1
    by_cases c13:Oa=94
    ·
     rw [if_pos c13] at H;have c13b0:(Oa==94)=true:=beq_iff_eq.mpr c13;have c13b1:(Oa != 94)=false:=bne_eq_false_iff_eq.mpr c13;clear c13
     by_cases c14:(Yz.length:Int)=0
     ·
      rw [if_pos c14] at H;have c14b0:((Yz.length:Int)==0)=true:=beq_iff_eq.mpr c14;have c14b1:((Yz.length:Int) != 0)=false:=bne_eq_false_iff_eq.mpr c14;clear c14
      by_cases c15:Yv=0
      ·
       rw [if_pos c15] at H;have c15b0:(Yv==0)=true:=beq_iff_eq.mpr c15;have c15b1:(Yv != 0)=false:=bne_eq_false_iff_eq.mpr c15;clear c15
       by_cases c16:YN=0
       ·
        rw [if_pos c16] at H;have c16b0:(YN==0)=true:=beq_iff_eq.mpr c16;have c16b1:(YN != 0)=false:=bne_eq_false_iff_eq.mpr c16;clear c16;replace H:=Option.bind_eq_some_iff.mp H;obtain ⟨qdu,qe3,H⟩:=H;replace H:(some qdu)=some r:=H;have A17:=Q0.mk qe3;clear qe3;obtain rfl:=Option.some.inj H;obtain ⟨qlv,qlK,qko⟩:=Kd.V_slice HO_8.out;subst qko
        go_wp2_with (first|(go_at_call 21;(with_reducible refine (Y7.calls  qdu _ A17.out).mono ?_);rintro e w19 ⟨rfl,hb⟩;have n0_:=Q0.mk (Kd.V_below (by (with_reducible repeat (first|apply Kd.V_alloc|apply Kd.V_drewN|apply Kd.V_drew));exact HO_8.out) hb);have n1_:=Q0.mk (Qe (g:=Jz) (by (with_reducible repeat (first|refine Q4 ?_ _|refine Q7 ?_|refine Q2 ?_ _));exact YW.out) hb);have n2_:=Q0.mk (Qm (by repeat (first|(with_reducible first|exact HB.out|apply Q3|apply Q1|apply Q6|refine Q5 ?_ ZA.out)|exact HB.out)) hb);clear HO_8 YW HB;have HO_8:=n0_;have YW:=n1_;have HB:=n2_;clear n0_ n1_ n2_;(try clear hb);(try clear hb2);(try clear hk);(try clear hi)))
        go_ret
        exact ⟨by first|rfl|(simp [Qq,Qr]<;>rfl)|(simp [*,Qq,Qr]<;>rfl),by repeat (first|(with_reducible first|exact HB.out|apply Q3|apply Q1|apply Q6|refine Q5 ?_ ZA.out)|exact HB.out)⟩
       rw [if_neg c16] at H;have c16b0:(YN==0)=false:=beq_eq_false_iff_ne.mpr c16;have c16b1:(YN != 0)=true:=bne_iff_ne.mpr c16;obtain rfl:=Option.some.inj H;obtain ⟨qoR,qlL,qi6⟩:=Kd.V_slice HO_8.out;subst qi6
       go_wp2
       go_ret
       exact ⟨by first|rfl|(simp [Qq,Qr]<;>rfl)|(simp [*,Qq,Qr]<;>rfl),by repeat (first|(with_reducible first|exact HB.out|apply Q3|apply Q1|apply Q6|refine Q5 ?_ ZA.out)|exact HB.out)⟩
      rw [if_neg c15] at H;have c15b0:(Yv==0)=false:=beq_eq_false_iff_ne.mpr c15;have c15b1:(Yv != 0)=true:=bne_iff_ne.mpr c15;obtain rfl:=Option.some.inj H;obtain ⟨qoS,qpg,qpr⟩:=Kd.V_slice HO_8.out;subst qpr
      go_wp2
      go_ret
      exact ⟨by first|rfl|(simp [Qq,Qr]<;>rfl)|(simp [*,Qq,Qr]<;>rfl),by repeat (first|(with_reducible first|exact HB.out|apply Q3|apply Q1|apply Q6|refine Q5 ?_ ZA.out)|exact HB.out)⟩
     rw [if_neg c14] at H;have c14b0:((Yz.length:Int)==0)=false:=beq_eq_false_iff_ne.mpr c14;have c14b1:((Yz.length:Int) != 0)=true:=bne_iff_ne.mpr c14
     have c14b2:¬ (Yz=[]):=fun h_=>c14 (by rw [h_];rfl)
     obtain rfl:=Option.some.inj H;obtain ⟨qy7,qra,qps⟩:=Kd.V_slice HO_8.out;subst qps
     go_wp2
     go_ret
     exact ⟨by first|rfl|(simp [Qq,Qr]<;>rfl)|(simp [*,Qq,Qr]<;>rfl),by repeat (first|(with_reducible first|exact HB.out|apply Q3|apply Q1|apply Q6|refine Q5 ?_ ZA.out)|exact HB.out)⟩
    rw [if_neg c13] at H;have c13b0:(Oa==94)=false:=beq_eq_false_iff_ne.mpr c13;have c13b1:(Oa != 94)=true:=bne_iff_ne.mpr c13;obtain rfl:=Option.some.inj H
    go_wp2
    go_ret
    exact ⟨by first|rfl|(simp [Qq,Qr]<;>rfl)|(simp [*,Qq,Qr]<;>rfl),by repeat (first|(with_reducible first|exact HB.out|apply Q3|apply Q1|apply Q6|refine Q5 ?_ ZA.out)|exact HB.out)⟩
   replace c12:=Bool.eq_false_iff.mpr c12
   subst c12
   have H1:((Qt.f kj5 Yz (l1.length:Int)).bind fun qba=>(if qba=true then (Qa.j1 kj5 l0 l1 ZF Yz Yv YN (decide ((Yz.length:Int)>ZF)) JG JH) else (Qa.j1 kj5 l0 l1 ZF Yz Yv YN true JG JH)))=some r:=by rw [if_neg (show ¬ (false=true) by decide)] at H;exact H
   clear H
   have H:=H1
   clear H1
   have qb8:=Q0.mk H
   clear H
   go_upto_region 5 with (fail)
   go_cut [71] (fun v71 wc => ∃ (kq:Nat) (qeY:Bool),v71 = .bool qeY∧Q0 (Qa.j1 kq l0 l1 ZF Yz Yv YN qeY JG JH=some r)∧Q0 (kq≤kj5)∧Q0 (Kd.V (Kd.int .i64) 3 wc w.heap.size (fun k_=>k_≠Jz) qlj Yz)∧Q0 (wc.heap[Jz]? = some (.cells #[.int .i64 JG,.int .i64 JH] 23 (0,0)))∧Q0 (Below w.heap.size w wc))
   case first =>
    have H:=qb8.out;clear qb8;replace H:=Option.bind_eq_some_iff.mp H;obtain ⟨qba,qe4,H⟩:=H;replace H:(if qba=true then (Qa.j1 kj5 l0 l1 ZF Yz Yv YN (decide ((Yz.length:Int)>ZF)) JG JH) else (Qa.j1 kj5 l0 l1 ZF Yz Yv YN true JG JH))=some r:=H;have A24:=Q0.mk qe4;clear qe4
    by_cases c25:qba=true
    ·
     subst c25
     have H1:(Qa.j1 kj5 l0 l1 ZF Yz Yv YN (decide ((Yz.length:Int)>ZF)) JG JH)=some r:=by rw [if_pos rfl] at H;exact H
     clear H;have H:=H1;clear H1;have H':=Q0.mk H;clear H;obtain ⟨qy8,qzo,qzE⟩:=Kd.V_slice HO_8.out;subst qzE
     go_wp2_with (first|((with_reducible refine Qx (f:=53) rfl ?_);refine YL (some 64) rfl rfl Try.func53 (by kernel_rfl) rfl #[.slice qy8 Yz.length qzo,.int .i64 (l1.length:Int)] rfl (by (try simp only [List.map_toArray,List.map_cons,List.map_nil]);first|done|rfl|(simp only [List.length_drop,List.length_take];rfl)) ?_;(with_reducible refine (Qt.calls kj5 _ _ Yz (l1.length:Int) true _ ?side1 ?side2 A24.out).mono ?_);(case side1=>repeat (first|exact (Kd.V_reads' HO_8.out).2.2|(with_reducible refine Kd.C_alloc ?_ _)|(with_reducible refine Kd.C_drewN ?_ _)|(with_reducible refine Kd.C_drew ?_)));(case side2=>exact (Kd.V_reads' HO_8.out).2.1);rintro e w' ⟨rfl,⟨nd,rfl⟩⟩;refine ⟨_,rfl,?_⟩))
     go_meet
     case rel=>exact ⟨_,(decide ((Yz.length:Int)>ZF)),(by first|rfl|(simp;done)|(simp [*];done)),H',⟨by have:=HJ5.out;first|omega|exact Nat.le_refl _⟩,⟨by (with_reducible repeat (first|apply Kd.V_alloc|apply Kd.V_drewN|apply Kd.V_drew));exact HO_8.out⟩,⟨by (with_reducible repeat (first|refine Q4 ?_ _|refine Q7 ?_|refine Q2 ?_ _));exact YW.out⟩,⟨by repeat (first|(with_reducible first|exact HB.out|apply Q3|apply Q1|apply Q6|refine Q5 ?_ ZA.out)|exact HB.out)⟩⟩
    replace c25:=Bool.eq_false_iff.mpr c25;subst c25
    have H1:(Qa.j1 kj5 l0 l1 ZF Yz Yv YN true JG JH)=some r:=by rw [if_neg (show ¬ (false=true) by decide)] at H;exact H
    clear H;have H:=H1;clear H1;have H':=Q0.mk H;clear H;obtain ⟨qy9,qzp,qzF⟩:=Kd.V_slice HO_8.out;subst qzF
    go_wp2_with (first|((with_reducible refine Qx (f:=53) rfl ?_);refine YL (some 64) rfl rfl Try.func53 (by kernel_rfl) rfl #[.slice qy9 Yz.length qzp,.int .i64 (l1.length:Int)] rfl (by (try simp only [List.map_toArray,List.map_cons,List.map_nil]);first|done|rfl|(simp only [List.length_drop,List.length_take];rfl)) ?_;(with_reducible refine (Qt.calls kj5 _ _ Yz (l1.length:Int) false _ ?side1 ?side2 A24.out).mono ?_);(case side1=>repeat (first|exact (Kd.V_reads' HO_8.out).2.2|(with_reducible refine Kd.C_alloc ?_ _)|(with_reducible refine Kd.C_drewN ?_ _)|(with_reducible refine Kd.C_drew ?_)));(case side2=>exact (Kd.V_reads' HO_8.out).2.1);rintro e w' ⟨rfl,⟨nd,rfl⟩⟩;refine ⟨_,rfl,?_⟩))
    go_meet
    case rel=>exact ⟨_,(true),(by first|rfl|(simp;done)|(simp [*];done)),H',⟨by have:=HJ5.out;first|omega|exact Nat.le_refl _⟩,⟨by (with_reducible repeat (first|apply Kd.V_alloc|apply Kd.V_drewN|apply Kd.V_drew));exact HO_8.out⟩,⟨by (with_reducible repeat (first|refine Q4 ?_ _|refine Q7 ?_|refine Q2 ?_ _));exact YW.out⟩,⟨by repeat (first|(with_reducible first|exact HB.out|apply Q3|apply Q1|apply Q6|refine Q5 ?_ ZA.out)|exact HB.out)⟩⟩
   case rest =>
    clear qb8;(try clear c1);(try clear c2);(try clear p2);(try clear c3);(try clear c4);(try clear c5);(try clear c10);(try clear c10b0);(try clear c10b1);(try clear c11);(try clear c11b0);(try clear c11b1);(try clear c12);(try clear c13);(try clear c13b0);(try clear c13b1);(try clear c14);(try clear c14b0);(try clear c14b1);(try clear c14b2);(try clear c15);(try clear c15b0);(try clear c15b1);(try clear c16);(try clear c16b0);(try clear c16b1);(try clear c17);(try clear c25);(try clear Wq);(try clear Wr);(try clear Ws);(try clear Wt);(try clear p2);obtain ⟨kq,qeY,rfl,HA,Kw,HO_8,YW,HB⟩:=hcut
    cases kq with
    | zero=>exact absurd HA.out (by simp [Qa.j1])
    | succ OO =>
     have H:=HA.out;clear HA;simp only [Qa.j1] at H
     by_cases c28:qeY=true
     ·
      subst c28
      have H1:(some false)=some r:=by rw [if_pos rfl] at H;exact H
      clear H;have H:=H1;clear H1;obtain rfl:=Option.some.inj H
      go_wp2
      go_ret
      exact ⟨by first|rfl|(simp [Qq,Qr]<;>rfl)|(simp [*,Qq,Qr]<;>rfl),by repeat (first|(with_reducible first|exact HB.out|apply Q3|apply Q1|apply Q6|refine Q5 ?_ ZA.out)|exact HB.out)⟩
     replace c28:=Bool.eq_false_iff.mpr c28;subst c28
     have H1:(Qa.l0 OO l0 l1 ZF Yz Yv YN 0 JG JH)=some r:=by rw [if_neg (show ¬ (false=true) by decide)] at H;exact H
     clear H;have H:=H1;clear H1;have H':=Q0.mk H;clear H
     go_wp2
     go_loopg [12] OO (fun kq v12 w' => ∃ (GV:Int),v12 = .int .i64 GV∧Q0 (Qa.l0 kq l0 l1 ZF Yz Yv YN GV JG JH=some r)∧Q0 (kq≤OO)∧Q0 (Kd.V (Kd.int .i64) 3 w' w.heap.size (fun k_=>k_≠Jz) qlj Yz)∧Q0 (w'.heap[Jz]? = some (.cells #[.int .i64 JG,.int .i64 JH] 23 (0,0)))∧Q0 (Below w.heap.size w w'))
     case atStart=>exact ⟨(0),(by first|rfl|(simp;done)|(simp [*];done)),H',⟨Nat.le_refl _⟩,⟨by (with_reducible repeat (first|apply Kd.V_alloc|apply Kd.V_drewN|apply Kd.V_drew));exact HO_8.out⟩,⟨by (with_reducible repeat (first|refine Q4 ?_ _|refine Q7 ?_|refine Q2 ?_ _));exact YW.out⟩,⟨by repeat (first|(with_reducible first|exact HB.out|apply Q3|apply Q1|apply Q6|refine Q5 ?_ ZA.out)|exact HB.out)⟩⟩
     case round =>
      clear H';(try clear c1);(try clear c2);(try clear p2);(try clear c3);(try clear c4);(try clear c5);(try clear c10);(try clear c10b0);(try clear c10b1);(try clear c11);(try clear c11b0);(try clear c11b1);(try clear c12);(try clear c13);(try clear c13b0);(try clear c13b1);(try clear c14);(try clear c14b0);(try clear c14b1);(try clear c14b2);(try clear c15);(try clear c15b0);(try clear c15b1);(try clear c16);(try clear c16b0);(try clear c16b1);(try clear c17);(try clear c25);(try clear c28);(try clear Wq);(try clear Wr);(try clear Ws);(try clear Wt);(try clear p2);obtain ⟨GV,rfl,HA,HK3,HO_8,YW,HB⟩:=hrel
      cases gk with
      | zero=>exact absurd HA.out (by simp [Qa.l0])
      | succ k3 =>
       have H:=HA.out;clear HA;simp only [Qa.l0] at H
       by_cases c29:GV<(l1.length:Int)
       ·
        rw [if_pos c29] at H;have c29b0:decide (GV<(l1.length:Int))=true:=decide_eq_true c29;clear c29
        by_cases c30:0≤GV
        ·
         rw [if_pos c30] at H;have c30b0:decide (0≤GV)=true:=decide_eq_true c30;clear c30;replace H:=Option.bind_eq_some_iff.mp H;obtain ⟨qdv,qjG,H⟩:=H;replace H:(if qdv=true then (Qa.l0 k3 l0 l1 ZF Yz Yv YN (wrap64 (GV+1)) JG JH) else (some false))=some r:=H;have A31:=Q0.mk qjG;clear qjG
         by_cases c32:qdv=true
         ·
          subst c32
          have H1:(Qa.l0 k3 l0 l1 ZF Yz Yv YN (wrap64 (GV+1)) JG JH)=some r:=by rw [if_pos rfl] at H;exact H
          clear H;have H:=H1;clear H1;have H':=Q0.mk H;clear H;have qa7:0≤(GV:Int):=of_decide_eq_true (by first|(with_reducible assumption)|assumption);have qa8:GV<(l1.length:Int):=of_decide_eq_true (by first|(with_reducible assumption)|assumption);obtain ⟨qpc,qdB,qdP,qkk,O9,Wx,Wv⟩:=Wm HR1.out GV qa7 qa8;cases qkk;replace O9:=(HB.out.cell (World.block_lt_of_cell? w _ O9)).trans O9;have qcb:=Q0.mk Wv;have qb7:=Q0.mk Wx;clear Wv Wx;replace qa7:=eq_true qa7;replace qa8:=eq_true qa8
          go_wp2_with (first|((with_reducible refine Qx (f:=53) rfl ?_);refine YL (some 84) rfl rfl Try.func53 (by kernel_rfl) rfl #[.slice qdB (QB l1 GV).length qdP,.int .i64 (l0.length:Int)] rfl (by (try simp only [List.map_toArray,List.map_cons,List.map_nil]);first|done|rfl|(simp only [List.length_drop,List.length_take];rfl)) ?_;(with_reducible refine (Qt.calls k3 _ _ (QB l1 GV) (l0.length:Int) true _ ?side1 ?side2 A31.out).mono ?_);(case side1=>repeat (first|exact (Kd.C_below qcb.out HB.out)|(with_reducible refine Kd.C_alloc ?_ _)|(with_reducible refine Kd.C_drewN ?_ _)|(with_reducible refine Kd.C_drew ?_)));(case side2=>exact qb7.out);rintro e w' ⟨rfl,⟨nd,rfl⟩⟩;refine ⟨_,rfl,?_⟩))
          go_roundg k3
          case measure=>have:=HJ5.out;have:=Kw.out;have:=HK3.out;omega
          case rel=>exact ⟨(wrap64 (GV+1)),(by first|rfl|(simp;done)|(simp [*];done)),H',⟨by have:=HJ5.out;have:=Kw.out;have:=HK3.out;omega⟩,⟨by (with_reducible repeat (first|apply Kd.V_alloc|apply Kd.V_drewN|apply Kd.V_drew));exact HO_8.out⟩,⟨by (with_reducible repeat (first|refine Q4 ?_ _|refine Q7 ?_|refine Q2 ?_ _));exact YW.out⟩,⟨by repeat (first|(with_reducible first|exact HB.out|apply Q3|apply Q1|apply Q6|refine Q5 ?_ ZA.out)|exact HB.out)⟩⟩
         replace c32:=Bool.eq_false_iff.mpr c32;subst c32
         have H1:(some false)=some r:=by rw [if_neg (show ¬ (false=true) by decide)] at H;exact H
         clear H;have H:=H1;clear H1;obtain rfl:=Option.some.inj H;have qa7:0≤(GV:Int):=of_decide_eq_true (by first|(with_reducible assumption)|assumption);have qa8:GV<(l1.length:Int):=of_decide_eq_true (by first|(with_reducible assumption)|assumption);obtain ⟨qpc,qdB,qdP,qkk,O9,Wx,Wv⟩:=Wm HR1.out GV qa7 qa8;cases qkk;replace O9:=(HB.out.cell (World.block_lt_of_cell? w _ O9)).trans O9;have qcb:=Q0.mk Wv;have qb7:=Q0.mk Wx;clear Wv Wx;replace qa7:=eq_true qa7;replace qa8:=eq_true qa8
         go_wp2_with (first|((with_reducible refine Qx (f:=53) rfl ?_);refine YL (some 84) rfl rfl Try.func53 (by kernel_rfl) rfl #[.slice qdB (QB l1 GV).length qdP,.int .i64 (l0.length:Int)] rfl (by (try simp only [List.map_toArray,List.map_cons,List.map_nil]);first|done|rfl|(simp only [List.length_drop,List.length_take];rfl)) ?_;(with_reducible refine (Qt.calls k3 _ _ (QB l1 GV) (l0.length:Int) false _ ?side1 ?side2 A31.out).mono ?_);(case side1=>repeat (first|exact (Kd.C_below qcb.out HB.out)|(with_reducible refine Kd.C_alloc ?_ _)|(with_reducible refine Kd.C_drewN ?_ _)|(with_reducible refine Kd.C_drew ?_)));(case side2=>exact qb7.out);rintro e w' ⟨rfl,⟨nd,rfl⟩⟩;refine ⟨_,rfl,?_⟩))
         go_ret
         exact ⟨by first|rfl|(simp [Qq,Qr]<;>rfl)|(simp [*,Qq,Qr]<;>rfl),by repeat (first|(with_reducible first|exact HB.out|apply Q3|apply Q1|apply Q6|refine Q5 ?_ ZA.out)|exact HB.out)⟩
        rw [if_neg c30] at H
        exact absurd H (by simp)
       rw [if_neg c29] at H;have c29b0:decide (GV<(l1.length:Int))=false:=decide_eq_false c29;clear c29;replace H:=Option.bind_eq_some_iff.mp H;obtain ⟨⟨UL,UM⟩,qjH,H⟩:=H;replace H:((Zj.f JH (shl .i64 1 (l1.length:Int))).bind fun Xg=>((QN.f k3 Xg (l1.length:Int)).bind fun ZP=>(if 0≤(mn (ZP.length:Int) ZF) then (if (mn (ZP.length:Int) ZF)≤(ZP.length:Int) then ((some (ZP.take ((mn (ZP.length:Int) ZF):Int).toNat:List Int)).bind fun YO=>((Qp.f k3 l0 l1 YO).bind fun QM=>(if UL=Yv then (if UM=YN then (if QM.1>Yv then (Qa.j3 k3 Yz Yv YN YO QM.1 QM.2 true) else (if QM.1=Yv then (Qa.j3 k3 Yz Yv YN YO QM.1 QM.2 (decide (QM.2<YN))) else (Qa.j3 k3 Yz Yv YN YO QM.1 QM.2 false))) else (Qa.j3 k3 Yz Yv YN YO QM.1 QM.2 true)) else (Qa.j3 k3 Yz Yv YN YO QM.1 QM.2 true)))) else (none)) else (none))))=some r:=H;have A33:=Q0.mk qjH;clear qjH;obtain ⟨qaN,UJ⟩:∃ j_:Int,(shl .i64 1 (l1.length:Int))=j_:=⟨_,rfl⟩
       replace H:((Zj.f JH (qaN)).bind fun Xg=>((QN.f k3 Xg (l1.length:Int)).bind fun ZP=>(if 0≤(mn (ZP.length:Int) ZF) then (if (mn (ZP.length:Int) ZF)≤(ZP.length:Int) then ((some (ZP.take ((mn (ZP.length:Int) ZF):Int).toNat:List Int)).bind fun YO=>((Qp.f k3 l0 l1 YO).bind fun QM=>(if UL=Yv then (if UM=YN then (if QM.1>Yv then (Qa.j3 k3 Yz Yv YN YO QM.1 QM.2 true) else (if QM.1=Yv then (Qa.j3 k3 Yz Yv YN YO QM.1 QM.2 (decide (QM.2<YN))) else (Qa.j3 k3 Yz Yv YN YO QM.1 QM.2 false))) else (Qa.j3 k3 Yz Yv YN YO QM.1 QM.2 true)) else (Qa.j3 k3 Yz Yv YN YO QM.1 QM.2 true)))) else (none)) else (none))))=some r:=by first|(rw [UJ] at H;exact H)|(simp only [UJ] at H ⊢;exact H)
       (try rw [UJ] at A33)
       have hji34_:(IntKind.i64.wrap (1*2 ^ min (l1.length:Int).toNat 64))=qaN:=UJ;have hji34z:(l1.length:Int)≤64→(IntKind.i64.wrap (1*2 ^ (l1.length:Int).toNat))=qaN:=qdr UJ;have hji34p:(IntKind.i64.wrap (1*2 ^ min l1.length 64))=qaN:=hji34_;have hji34q:(l1.length:Int)≤64→(IntKind.i64.wrap (1*2 ^ l1.length))=qaN:=hji34z
       have hji34r:(IntKind.i64.wrap (2 ^ min l1.length 64))=qaN:=by have h_:=hji34p;rw [Int.one_mul] at h_;exact h_
       have hji34s:(l1.length:Int)≤64→(IntKind.i64.wrap (2 ^ l1.length))=qaN:=fun hle_=>by have h_:=hji34q hle_;rw [Int.one_mul] at h_;exact h_
       have hji34u:(IntKind.i64.wrap (2 ^ min (l1.length:Int).toNat 64))=qaN:=by have h_:=hji34_;rw [Int.one_mul] at h_;exact h_
       have hji34v:(l1.length:Int)≤64→(IntKind.i64.wrap (2 ^ (l1.length:Int).toNat))=qaN:=fun hle_=>by have h_:=hji34z hle_;rw [Int.one_mul] at h_;exact h_
       have hji34y:(wrap64 (1*2 ^ min (l1.length:Int).toNat 64))=qaN:=(Yj _).symm.trans hji34_
       have hji34x:(l1.length:Int)≤64→(wrap64 (1*2 ^ (l1.length:Int).toNat))=qaN:=fun h_=>(Yj _).symm.trans (hji34z h_)
       replace H:=Option.bind_eq_some_iff.mp H;obtain ⟨Xg,qqh,H⟩:=H;replace H:((QN.f k3 Xg (l1.length:Int)).bind fun ZP=>(if 0≤(mn (ZP.length:Int) ZF) then (if (mn (ZP.length:Int) ZF)≤(ZP.length:Int) then ((some (ZP.take ((mn (ZP.length:Int) ZF):Int).toNat:List Int)).bind fun YO=>((Qp.f k3 l0 l1 YO).bind fun QM=>(if UL=Yv then (if UM=YN then (if QM.1>Yv then (Qa.j3 k3 Yz Yv YN YO QM.1 QM.2 true) else (if QM.1=Yv then (Qa.j3 k3 Yz Yv YN YO QM.1 QM.2 (decide (QM.2<YN))) else (Qa.j3 k3 Yz Yv YN YO QM.1 QM.2 false))) else (Qa.j3 k3 Yz Yv YN YO QM.1 QM.2 true)) else (Qa.j3 k3 Yz Yv YN YO QM.1 QM.2 true)))) else (none)) else (none)))=some r:=H;have A35:=Q0.mk qqh;clear qqh;replace H:=Option.bind_eq_some_iff.mp H;obtain ⟨ZP,qjI,H⟩:=H;replace H:(if 0≤(mn (ZP.length:Int) ZF) then (if (mn (ZP.length:Int) ZF)≤(ZP.length:Int) then ((some (ZP.take ((mn (ZP.length:Int) ZF):Int).toNat:List Int)).bind fun YO=>((Qp.f k3 l0 l1 YO).bind fun QM=>(if UL=Yv then (if UM=YN then (if QM.1>Yv then (Qa.j3 k3 Yz Yv YN YO QM.1 QM.2 true) else (if QM.1=Yv then (Qa.j3 k3 Yz Yv YN YO QM.1 QM.2 (decide (QM.2<YN))) else (Qa.j3 k3 Yz Yv YN YO QM.1 QM.2 false))) else (Qa.j3 k3 Yz Yv YN YO QM.1 QM.2 true)) else (Qa.j3 k3 Yz Yv YN YO QM.1 QM.2 true)))) else (none)) else (none))=some r:=H;have A36:=Q0.mk qjI;clear qjI;obtain ⟨qaO,UK⟩:∃ j_:Int,(mn (ZP.length:Int) ZF)=j_:=⟨_,rfl⟩
       replace H:(if 0≤(qaO) then (if (qaO)≤(ZP.length:Int) then ((some (ZP.take ((qaO):Int).toNat:List Int)).bind fun YO=>((Qp.f k3 l0 l1 YO).bind fun QM=>(if UL=Yv then (if UM=YN then (if QM.1>Yv then (Qa.j3 k3 Yz Yv YN YO QM.1 QM.2 true) else (if QM.1=Yv then (Qa.j3 k3 Yz Yv YN YO QM.1 QM.2 (decide (QM.2<YN))) else (Qa.j3 k3 Yz Yv YN YO QM.1 QM.2 false))) else (Qa.j3 k3 Yz Yv YN YO QM.1 QM.2 true)) else (Qa.j3 k3 Yz Yv YN YO QM.1 QM.2 true)))) else (none)) else (none))=some r:=by first|(rw [UK] at H;exact H)|(simp only [UK] at H ⊢;exact H)
       (try rw [UK] at A33)
       (try rw [UK] at A35)
       (try rw [UK] at A36)
       have hji37_:(if ZF<(ZP.length:Int) then ZF else (ZP.length:Int))=qaO:=UK
       by_cases c38:0≤(qaO)
       ·
        rw [if_pos c38] at H;have c38b0:=eq_true c38;have c38b1:decide (0≤(qaO))=true:=decide_eq_true c38;clear c38
        by_cases c39:(qaO)≤(ZP.length:Int)
        ·
         rw [if_pos c39] at H;have c39b0:=eq_true c39;have c39b1:decide ((qaO)≤(ZP.length:Int))=true:=decide_eq_true c39;clear c39;obtain ⟨YO,qcy⟩:∃ y_:List Int,y_=(ZP.take ((qaO):Int).toNat):=⟨_,rfl⟩
         replace H:((Qp.f k3 l0 l1 YO).bind fun QM=>(if UL=Yv then (if UM=YN then (if QM.1>Yv then (Qa.j3 k3 Yz Yv YN YO QM.1 QM.2 true) else (if QM.1=Yv then (Qa.j3 k3 Yz Yv YN YO QM.1 QM.2 (decide (QM.2<YN))) else (Qa.j3 k3 Yz Yv YN YO QM.1 QM.2 false))) else (Qa.j3 k3 Yz Yv YN YO QM.1 QM.2 true)) else (Qa.j3 k3 Yz Yv YN YO QM.1 QM.2 true)))=some r:=by first|(rw [qcy];with_reducible exact H)|(have H2_:=(Option.bind_some _ _).symm.trans H;rw [qcy];with_reducible exact H2_)|(have H2_:=(Option.bind_some _ _).symm.trans H;with_reducible exact H2_)|with_reducible exact H|(rw [qcy];exact H)|exact H
         have qjY:=Q0.mk qcy;clear qcy;replace H:=Option.bind_eq_some_iff.mp H;obtain ⟨⟨Gv,OI⟩,qqi,H⟩:=H;replace H:(if UL=Yv then (if UM=YN then (if Gv>Yv then (Qa.j3 k3 Yz Yv YN YO Gv OI true) else (if Gv=Yv then (Qa.j3 k3 Yz Yv YN YO Gv OI (decide (OI<YN))) else (Qa.j3 k3 Yz Yv YN YO Gv OI false))) else (Qa.j3 k3 Yz Yv YN YO Gv OI true)) else (Qa.j3 k3 Yz Yv YN YO Gv OI true))=some r:=H;have A40:=Q0.mk qqi;clear qqi;have qo0:=Q0.mk H;clear H;obtain ⟨qqw,qrf,qzN⟩:=Kd.V_slice HO_8.out;subst qzN
         try go_wp2_with (first|((with_reducible refine Qx (f:=54) rfl ?_);refine YL (some 90) rfl rfl Try.func54 (by kernel_rfl) rfl #[.slice A0 l0.length c0,.slice A1 l1.length c1,.slice qqw Yz.length qrf] rfl (by (try simp only [List.map_toArray,List.map_cons,List.map_nil]);first|done|rfl|(simp only [List.length_drop,List.length_take];rfl)) ?_;(with_reducible refine (Qp.calls k3 _ _ l0 _ _ l1 _ _ Yz UL UM _ ?side1 ?side2 ?side3 ?side4 ?side5 ?side6 A33.out).mono ?_);(case side1=>repeat (first|exact (Kd.C_below HR0.out HB.out)|(with_reducible refine Kd.C_alloc ?_ _)|(with_reducible refine Kd.C_drewN ?_ _)|(with_reducible refine Kd.C_drew ?_)));(case side2=>exact HC0.out);(case side3=>repeat (first|exact (Kd.C_below HR1.out HB.out)|(with_reducible refine Kd.C_alloc ?_ _)|(with_reducible refine Kd.C_drewN ?_ _)|(with_reducible refine Kd.C_drew ?_)));(case side4=>exact HC1.out);(case side5=>repeat (first|exact (Kd.V_reads' HO_8.out).2.2|(with_reducible refine Kd.C_alloc ?_ _)|(with_reducible refine Kd.C_drewN ?_ _)|(with_reducible refine Kd.C_drew ?_)));(case side6=>exact (Kd.V_reads' HO_8.out).2.1);rintro e w43 ⟨rfl,hb⟩;refine ⟨_,rfl,?_⟩;have n0_:=Q0.mk (Kd.V_below (by (with_reducible repeat (first|apply Kd.V_alloc|apply Kd.V_drewN|apply Kd.V_drew));exact HO_8.out) hb);have n1_:=Q0.mk (Qe (g:=Jz) (by (with_reducible repeat (first|refine Q4 ?_ _|refine Q7 ?_|refine Q2 ?_ _));exact YW.out) hb);have n2_:=Q0.mk (Qm (by repeat (first|(with_reducible first|exact HB.out|apply Q3|apply Q1|apply Q6|refine Q5 ?_ ZA.out)|exact HB.out)) hb);clear HO_8 YW HB;have HO_8:=n0_;have YW:=n1_;have HB:=n2_;clear n0_ n1_ n2_;(try clear hb);(try clear hb2);(try clear hk);(try clear hi)))
         have n0_:=Q0.mk (Kd.V_drew HO_8.out);have n1_:=Q0.mk (Q7 YW.out);have n2_:=Q0.mk (Q6 HB.out);clear HO_8 YW HB;have HO_8:=n0_;have YW:=n1_;have HB:=n2_;clear n0_ n1_ n2_;refine qaS (n:=10) (S:=fun w'=>w'.cell? ⟨Jz,0,none⟩=some (.int .i64 JG)∧w'.cell? ⟨Jz,1,none⟩=some (.int .i64 JH)) (ds:=[]) #[false,false,false,false,false,false,false,false,false,false] (by kernel_rfl) rfl rfl ⟨(Q8 YW.out 0).trans rfl,(Q8 YW.out 1).trans rfl⟩ (fun hHeld => ?_);refine UO Qa.tab13 Qa.bits13 (fun HT_ HW_ => ?_)
         generalize w43.drew=w44 at HO_8 YW HB hHeld ⊢
         refine ZE (i:=0) (N:=some 93) (v:=?_) (a':=?_) #[true,false,false,false,false,false,false,false,false,false] rfl rfl (Zb HT_.out (by kernel_rfl)) (fun _ _ _ h=>h) (Or.inl ⟨by rfl,?_⟩) ?_ ?_
         rotate_left
         ·
          intro w'
          go_simp
          with_reducible rfl
         rotate_left
         ·
          simp only [Act.put,List.setIfInBounds_toArray,List.set_cons_zero,List.set_cons_succ,Yj,Yu]
          rfl
         refine ZE (i:=2) (N:=some 95) (v:=?_) (a':=?_) #[true,false,true,false,false,false,false,false,false,false] rfl rfl (Zb HT_.out (by kernel_rfl)) (fun _ _ _ h=>h) (Or.inl ⟨by rfl,?_⟩) ?_ ?_
         rotate_left
         ·
          intro w'
          go_simp
          with_reducible rfl
         rotate_left
         ·
          simp only [Act.put,List.setIfInBounds_toArray,List.set_cons_zero,List.set_cons_succ,Yj,Yu]
          rfl
         refine ZE (i:=3) (N:=some 96) (v:=?_) (a':=?_) #[true,false,true,true,false,false,false,false,false,false] rfl rfl (Zb HT_.out (by kernel_rfl)) (fun _ _ _ h=>h) (Or.inl ⟨by rfl,?_⟩) ?_ ?_
         rotate_left
         ·
          intro w'
          go_simp
          with_reducible rfl
         rotate_left
         ·
          simp only [Act.put,List.setIfInBounds_toArray,List.set_cons_zero,List.set_cons_succ,Yj,Yu]
          rfl
         refine ZE (i:=4) (N:=some 97) (v:=?_) (a':=?_) #[true,false,true,true,true,false,false,false,false,false] rfl rfl (Zb HT_.out (by kernel_rfl)) (fun _ _ _ h=>h) (Or.inl ⟨by rfl,?_⟩) ?_ ?_
         rotate_left
         ·
          intro w'
          go_simp
          with_reducible rfl
         rotate_left
         ·
          simp only [Act.put,List.setIfInBounds_toArray,List.set_cons_zero,List.set_cons_succ,Yj,Yu]
          rfl
         refine ZE (i:=6) (N:=some 99) (v:=?_) (a':=?_) #[true,false,true,true,true,false,true,false,false,false] rfl rfl (Zb HT_.out (by kernel_rfl)) (fun _ _ _ h=>h) (Or.inl ⟨by rfl,?_⟩) ?_ ?_
         rotate_left
         ·
          intro w'
          go_simp
          with_reducible rfl
         rotate_left
         ·
          simp only [Act.put,List.setIfInBounds_toArray,List.set_cons_zero,List.set_cons_succ,Yj,Yu]
          rfl
         refine ZE (i:=7) (N:=some 100) (v:=?_) (a':=?_) #[true,false,true,true,true,false,true,true,false,false] rfl rfl (Zb HT_.out (by kernel_rfl)) (fun _ _ _ h=>h) (Or.inl ⟨by rfl,?_⟩) ?_ ?_
         rotate_left
         ·
          intro w'
          go_simp
          with_reducible rfl
         rotate_left
         ·
          simp only [Act.put,List.setIfInBounds_toArray,List.set_cons_zero,List.set_cons_succ,Yj,Yu]
          rfl
         refine Oh (i:=1) (N:=some 94) (v:=?_) (a':=?_) #[true,true,true,true,true,false,true,true,false,false] rfl rfl (JI HT_.out HW_.out (by kernel_rfl)) (fun _ _ _ h=>h) (Or.inl ⟨by rfl,?_⟩) hHeld ?_ ?_
         rotate_left
         ·
          rintro w' ⟨s0,s1⟩
          go_simp
          with_reducible rfl
         rotate_left
         ·
          simp only [Act.put,List.setIfInBounds_toArray,List.set_cons_zero,List.set_cons_succ,Yj,Yu]
          rfl
         refine one_ (i:=5) (N:=some 98) #[true,true,true,true,true,true,true,true,false,false] rfl rfl (KE HT_.out (by kernel_rfl)) (by decide) (fun K hK => ?_);refine XL Try.func36 (by kernel_rfl) rfl #[.int .i64 JH,.int .i64 qaN] (by rfl) rfl rfl (by (try simp only [List.map_toArray,List.map_cons,List.map_nil]);first|done|(simp only [UJ];rfl)|rfl|(simp only [List.length_drop,List.length_take];rfl)) ?_
         with_reducible refine (Zj.calls JH qaN Xg _ A35.out).mono ?_
         rintro e w' ⟨rfl,⟨nd,rfl⟩⟩;refine ⟨_,rfl,?_⟩;refine hK.out _ _ ⟨(Q8 YW.out 0).trans rfl,(Q8 YW.out 1).trans rfl⟩ (fun hHeld => ?_);clear hK K;refine Gl (a':=?_) ?_ ?_
         rotate_left
         ·
          show Act.put _ (some 98) _=_
          simp only [Act.put,List.setIfInBounds_toArray,List.set_cons_zero,List.set_cons_succ,Yj,Yu]
          rfl
         refine one_ (i:=8) (N:=some 101) #[true,true,true,true,true,true,true,true,true,false] rfl rfl (KE HT_.out (by kernel_rfl)) (by decide) (fun K hK => ?_);refine XL Try.func55 (by kernel_rfl) rfl #[.int .i64 Xg,.int .i64 (l1.length:Int)] (by rfl) rfl rfl (by (try simp only [List.map_toArray,List.map_cons,List.map_nil]);first|done|rfl|(simp only [List.length_drop,List.length_take];rfl)) ?_
         with_reducible refine (QN.calls k3 Xg (l1.length:Int) ZP _ A36.out).mono ?_
         rintro e w45 ⟨qCC,rfl,ho0,hb⟩;refine ⟨_,rfl,?_⟩;have n0_:=Q0.mk (Kd.V_elder' (by (with_reducible repeat (first|apply Kd.V_alloc|apply Kd.V_drewN|apply Kd.V_drew));exact HO_8.out) (Kd.R_base ho0) hb);have n1_:=Q0.mk (Kd.R_lower ho0 (Qf (by repeat (first|(with_reducible first|exact HB.out|apply Q3|apply Q1|apply Q6|refine Q5 ?_ ZA.out)|exact HB.out))));have n2_:=Q0.mk (Qe (g:=Jz) (by (with_reducible repeat (first|refine Q4 ?_ _|refine Q7 ?_|refine Q2 ?_ _));exact YW.out) hb);have n3_:=Q0.mk (Qm (by repeat (first|(with_reducible first|exact HB.out|apply Q3|apply Q1|apply Q6|refine Q5 ?_ ZA.out)|exact HB.out)) hb);clear HO_8 YW HB;have HO_8:=n0_;have qdG:=n1_;have YW:=n2_;have HB:=n3_;clear n0_ n1_ n2_ n3_
         (try clear hb)
         (try clear hb2)
         (try clear hk)
         (try clear hi)
         (try clear ho0)
         refine hK.out _ _ ⟨(Q8 YW.out 0).trans rfl,(Q8 YW.out 1).trans rfl⟩ (fun hHeld => ?_);clear hK K;refine Gl (a':=?_) ?_ ?_
         rotate_left
         ·
          show Act.put _ (some 101) _=_
          simp only [Act.put,List.setIfInBounds_toArray,List.set_cons_zero,List.set_cons_succ,Yj,Yu]
          rfl
         refine ZE (i:=9) (N:=some 15) (v:=?_) (a':=?_) #[true,true,true,true,true,true,true,true,true,true] rfl rfl (Zb HT_.out (by kernel_rfl)) (fun _ _ _ h=>h) (Or.inl ⟨by rfl,?_⟩) ?_ ?_
         rotate_left
         ·
          intro w'
          go_simp
          with_reducible rfl
         rotate_left
         ·
          simp only [Act.put,List.setIfInBounds_toArray,List.set_cons_zero,List.set_cons_succ,Yj,Yu]
          rfl
         refine qdl (XI HT_.out (by kernel_rfl)) ?_;obtain ⟨qlx,qlN,qzO⟩:=Kd.R_slice qdG.out;subst qzO;have q47:((qaO):Int)≤((ZP.length:Int):Int):=of_decide_eq_true (by first|(with_reducible assumption)|assumption);obtain ⟨qDA,qoy,_,qs3,_⟩:=info_parts Xc;have qpy:=qph (P:=Try.prog) 37 3 .i64 Try.underlying37 qoy qlx ZP.length qlN (qaO) (of_decide_eq_true (by first|(with_reducible assumption)|assumption)) q47 (Kd.R_reads' qdG.out).2.1;have qm4:=Kd.R_take (m:=((qaO):Int).toNat) qdG.out (by omega);have hy47:YO.length=((qaO):Int).toNat:=(by rw [qjY.out,List.length_take];omega);rw [← qjY.out] at qm4;rw [← hy47] at qm4 qpy;clear hy47 qoy qs3 qdG;have Us:=Q0.mk qm4;clear qm4;replace q47:=eq_true q47
         go_upto_region 16 with (first|((with_reducible refine Qx (f:=54) rfl ?_);refine YL (some 112) rfl rfl Try.func54 (by kernel_rfl) rfl #[.slice A0 l0.length c0,.slice A1 l1.length c1,.slice qlx YO.length qlN] rfl (by (try simp only [List.map_toArray,List.map_cons,List.map_nil]);first|done|rfl|(simp only [List.length_drop,List.length_take];rfl)) ?_;(with_reducible refine (Qp.calls k3 _ _ l0 _ _ l1 _ _ YO Gv OI _ ?side1 ?side2 ?side3 ?side4 ?side5 ?side6 A40.out).mono ?_);(case side1=>repeat (first|exact (Kd.C_below HR0.out HB.out)|(with_reducible refine Kd.C_alloc ?_ _)|(with_reducible refine Kd.C_drewN ?_ _)|(with_reducible refine Kd.C_drew ?_)));(case side2=>exact HC0.out);(case side3=>repeat (first|exact (Kd.C_below HR1.out HB.out)|(with_reducible refine Kd.C_alloc ?_ _)|(with_reducible refine Kd.C_drewN ?_ _)|(with_reducible refine Kd.C_drew ?_)));(case side4=>exact HC1.out);(case side5=>repeat (first|exact (Kd.R_reads' Us.out).2.2|(with_reducible refine Kd.C_alloc ?_ _)|(with_reducible refine Kd.C_drewN ?_ _)|(with_reducible refine Kd.C_drew ?_)));(case side6=>exact (Kd.R_reads' Us.out).2.1);rintro e w48 ⟨rfl,hb⟩;refine ⟨_,rfl,?_⟩;have n0_:=Q0.mk (Kd.V_below (by (with_reducible repeat (first|apply Kd.V_alloc|apply Kd.V_drewN|apply Kd.V_drew));exact HO_8.out) hb);have n1_:=Q0.mk (Kd.R_below (by (with_reducible repeat (first|apply Kd.R_alloc|apply Kd.R_drewN|apply Kd.R_drew));exact Us.out) hb);have n2_:=Q0.mk (Qe (g:=Jz) (by (with_reducible repeat (first|refine Q4 ?_ _|refine Q7 ?_|refine Q2 ?_ _));exact YW.out) hb);have n3_:=Q0.mk (Qm (by repeat (first|(with_reducible first|exact HB.out|apply Q3|apply Q1|apply Q6|refine Q5 ?_ ZA.out)|exact HB.out)) hb);clear HO_8 Us YW HB;have HO_8:=n0_;have Us:=n1_;have YW:=n2_;have HB:=n3_;clear n0_ n1_ n2_ n3_;(try clear hb);(try clear hb2);(try clear hk);(try clear hi)))
         (try simp only [Act.put,List.setIfInBounds_toArray,List.set_cons_zero,List.set_cons_succ])
         go_cut [137] (fun qAu wc => ∃ (kq:Nat) (qb2:Bool),qAu = .bool qb2∧Q0 (Qa.j3 kq Yz Yv YN YO Gv OI qb2=some r)∧Q0 (kq≤k3)∧Q0 (Kd.V (Kd.int .i64) 3 wc w.heap.size (fun k_=>some k_≠((.slice qlx YO.length qlN):Value).ownBlock∧k_≠Jz) (.slice qqw Yz.length qrf) Yz)∧Q0 (Kd.R (Kd.int .i64) 3 wc w.heap.size (fun _=>True) (.slice qlx YO.length qlN) YO)∧Q0 (wc.heap[Jz]? = some (.cells #[.int .i64 JG,.int .i64 JH] 23 (0,0)))∧Q0 (Below w.heap.size w wc))
         case first =>
          have H:=qo0.out;clear qo0
          by_cases c49:UL=Yv
          ·
           rw [if_pos c49] at H;have c49b0:(UL==Yv)=true:=beq_iff_eq.mpr c49;have c49b1:(UL != Yv)=false:=bne_eq_false_iff_eq.mpr c49;clear c49
           (first|rw [c49b0]|(simp only [Yj,Yu];rw [c49b0])|skip)
           by_cases c50:UM=YN
           ·
            rw [if_pos c50] at H;have c50b0:(UM==YN)=true:=beq_iff_eq.mpr c50;have c50b1:(UM != YN)=false:=bne_eq_false_iff_eq.mpr c50;clear c50
            by_cases c51:Gv>Yv
            ·
             rw [if_pos c51] at H;have c51b0:decide (Yv<Gv)=true:=decide_eq_true c51;clear c51;have H':=Q0.mk H;clear H
             go_wp2
             go_meet
             case rel=>exact ⟨_,(true),(by first|rfl|(simp;done)|(simp [*];done)),H',⟨by have:=HJ5.out;have:=Kw.out;have:=HK3.out;first|omega|exact Nat.le_refl _⟩,⟨by (with_reducible repeat (first|apply Kd.V_alloc|apply Kd.V_drewN|apply Kd.V_drew));exact Kd.V_mono HO_8.out (fun _ hk=>⟨by first|exact hk.2|exact fun h=>hk.2 (h.trans (qaw _ _ _ _)),hk.1⟩)⟩,⟨by (with_reducible repeat (first|apply Kd.R_alloc|apply Kd.R_drewN|apply Kd.R_drew));exact Us.out⟩,⟨by (with_reducible repeat (first|refine Q4 ?_ _|refine Q7 ?_|refine Q2 ?_ _));exact YW.out⟩,⟨by repeat (first|(with_reducible first|exact HB.out|apply Q3|apply Q1|apply Q6|refine Q5 ?_ ZA.out)|exact HB.out)⟩⟩
            rw [if_neg c51] at H;have c51b0:decide (Yv<Gv)=false:=decide_eq_false c51;clear c51
            by_cases c52:Gv=Yv
            ·
             rw [if_pos c52] at H;have c52b0:(Gv==Yv)=true:=beq_iff_eq.mpr c52;have c52b1:(Gv != Yv)=false:=bne_eq_false_iff_eq.mpr c52;clear c52;have H':=Q0.mk H;clear H
             go_wp2
             go_meet
             case rel=>exact ⟨_,(decide (OI<YN)),(by first|rfl|(simp;done)|(simp [*];done)),H',⟨by have:=HJ5.out;have:=Kw.out;have:=HK3.out;first|omega|exact Nat.le_refl _⟩,⟨by (with_reducible repeat (first|apply Kd.V_alloc|apply Kd.V_drewN|apply Kd.V_drew));exact Kd.V_mono HO_8.out (fun _ hk=>⟨by first|exact hk.2|exact fun h=>hk.2 (h.trans (qaw _ _ _ _)),hk.1⟩)⟩,⟨by (with_reducible repeat (first|apply Kd.R_alloc|apply Kd.R_drewN|apply Kd.R_drew));exact Us.out⟩,⟨by (with_reducible repeat (first|refine Q4 ?_ _|refine Q7 ?_|refine Q2 ?_ _));exact YW.out⟩,⟨by repeat (first|(with_reducible first|exact HB.out|apply Q3|apply Q1|apply Q6|refine Q5 ?_ ZA.out)|exact HB.out)⟩⟩
            rw [if_neg c52] at H;have c52b0:(Gv==Yv)=false:=beq_eq_false_iff_ne.mpr c52;have c52b1:(Gv != Yv)=true:=bne_iff_ne.mpr c52;have H':=Q0.mk H;clear H
            go_wp2
            go_meet
            case rel=>exact ⟨_,(false),(by first|rfl|(simp;done)|(simp [*];done)),H',⟨by have:=HJ5.out;have:=Kw.out;have:=HK3.out;first|omega|exact Nat.le_refl _⟩,⟨by (with_reducible repeat (first|apply Kd.V_alloc|apply Kd.V_drewN|apply Kd.V_drew));exact Kd.V_mono HO_8.out (fun _ hk=>⟨by first|exact hk.2|exact fun h=>hk.2 (h.trans (qaw _ _ _ _)),hk.1⟩)⟩,⟨by (with_reducible repeat (first|apply Kd.R_alloc|apply Kd.R_drewN|apply Kd.R_drew));exact Us.out⟩,⟨by (with_reducible repeat (first|refine Q4 ?_ _|refine Q7 ?_|refine Q2 ?_ _));exact YW.out⟩,⟨by repeat (first|(with_reducible first|exact HB.out|apply Q3|apply Q1|apply Q6|refine Q5 ?_ ZA.out)|exact HB.out)⟩⟩
           rw [if_neg c50] at H;have c50b0:(UM==YN)=false:=beq_eq_false_iff_ne.mpr c50;have c50b1:(UM != YN)=true:=bne_iff_ne.mpr c50;have H':=Q0.mk H;clear H
           go_wp2
           go_meet
           case rel=>exact ⟨_,(true),(by first|rfl|(simp;done)|(simp [*];done)),H',⟨by have:=HJ5.out;have:=Kw.out;have:=HK3.out;first|omega|exact Nat.le_refl _⟩,⟨by (with_reducible repeat (first|apply Kd.V_alloc|apply Kd.V_drewN|apply Kd.V_drew));exact Kd.V_mono HO_8.out (fun _ hk=>⟨by first|exact hk.2|exact fun h=>hk.2 (h.trans (qaw _ _ _ _)),hk.1⟩)⟩,⟨by (with_reducible repeat (first|apply Kd.R_alloc|apply Kd.R_drewN|apply Kd.R_drew));exact Us.out⟩,⟨by (with_reducible repeat (first|refine Q4 ?_ _|refine Q7 ?_|refine Q2 ?_ _));exact YW.out⟩,⟨by repeat (first|(with_reducible first|exact HB.out|apply Q3|apply Q1|apply Q6|refine Q5 ?_ ZA.out)|exact HB.out)⟩⟩
          rw [if_neg c49] at H;have c49b0:(UL==Yv)=false:=beq_eq_false_iff_ne.mpr c49;have c49b1:(UL != Yv)=true:=bne_iff_ne.mpr c49
          (first|rw [c49b0]|(simp only [Yj,Yu];rw [c49b0])|skip)
          have H':=Q0.mk H;clear H
          go_wp2
          go_meet
          case rel=>exact ⟨_,(true),(by first|rfl|(simp;done)|(simp [*];done)),H',⟨by have:=HJ5.out;have:=Kw.out;have:=HK3.out;first|omega|exact Nat.le_refl _⟩,⟨by (with_reducible repeat (first|apply Kd.V_alloc|apply Kd.V_drewN|apply Kd.V_drew));exact Kd.V_mono HO_8.out (fun _ hk=>⟨by first|exact hk.2|exact fun h=>hk.2 (h.trans (qaw _ _ _ _)),hk.1⟩)⟩,⟨by (with_reducible repeat (first|apply Kd.R_alloc|apply Kd.R_drewN|apply Kd.R_drew));exact Us.out⟩,⟨by (with_reducible repeat (first|refine Q4 ?_ _|refine Q7 ?_|refine Q2 ?_ _));exact YW.out⟩,⟨by repeat (first|(with_reducible first|exact HB.out|apply Q3|apply Q1|apply Q6|refine Q5 ?_ ZA.out)|exact HB.out)⟩⟩
         case rest =>
          clear qo0;(try clear c1);(try clear p1);(try clear q1);(try clear hx1);(try clear c2);(try clear p2);(try clear c3);(try clear c4);(try clear q4);(try clear c5);(try clear p6);(try clear c10);(try clear c10b0);(try clear c10b1);(try clear p10);(try clear q10);(try clear qpK);(try clear c11);(try clear c11b0);(try clear c11b1);(try clear c12);(try clear c13);(try clear c13b0);(try clear c13b1);(try clear c14);(try clear c14b0);(try clear c14b1);(try clear c14b2);(try clear c15);(try clear c15b0);(try clear c15b1);(try clear c16);(try clear c16b0);(try clear c16b1);(try clear c17);(try clear c25);(try clear c28);(try clear c29);(try clear c29b0);(try clear c30);(try clear c30b0);(try clear c32);(try clear c36);(try clear c38);(try clear c38b0);(try clear c38b1);(try clear c39);(try clear c39b0);(try clear c39b1);(try clear c40);(try clear q47);(try clear c49);(try clear c49b0);(try clear c49b1);(try clear c50);(try clear c50b0);(try clear c50b1);(try clear c51);(try clear c51b0);(try clear c52);(try clear c52b0);(try clear c52b1);(try clear Wq);(try clear Wr);(try clear Ws);(try clear Wt);(try clear O9);(try clear qa7);(try clear p2);(try clear qa8);(try clear q47);obtain ⟨kq,qb2,rfl,HA,qCF,HO_8,HO_15,YW,HB⟩:=hcut
          cases kq with
          | zero=>exact absurd HA.out (by simp [Qa.j3])
          | succ qpN =>
           have H:=HA.out;clear HA;simp only [Qa.j3] at H
           by_cases c53:qb2=true
           ·
            subst c53
            have H1:(some false)=some r:=by rw [if_pos rfl] at H;exact H
            clear H;have H:=H1;clear H1;obtain rfl:=Option.some.inj H
            go_wp2
            go_ret
            exact ⟨by first|rfl|(simp [Qq,Qr]<;>rfl)|(simp only [← UJ,← UK];first|rfl|(simp [Qq,Qr]<;>rfl))|(simp [*,Qq,Qr]<;>rfl),by repeat (first|(with_reducible first|exact HB.out|apply Q3|apply Q1|apply Q6|refine Q5 ?_ ZA.out)|exact HB.out)⟩
           replace c53:=Bool.eq_false_iff.mpr c53;subst c53
           have H1:(if Gv=Yv then (if OI=YN then (if (YO.length:Int)>(Yz.length:Int) then ((Y7.f).bind fun qdw=>(some qdw)) else (if (YO.length:Int)=(Yz.length:Int) then ((Qy.f qpN YO Yz).bind fun qbb=>(if qbb=true then (some false) else ((Y7.f).bind fun Xh=>(some Xh)))) else (some false))) else ((Y7.f).bind fun qdx=>(some qdx))) else ((Y7.f).bind fun qdy=>(some qdy)))=some r:=by rw [if_neg (show ¬ (false=true) by decide)] at H;exact H
           clear H;have H:=H1;clear H1
           by_cases c54:Gv=Yv
           ·
            rw [if_pos c54] at H;have c54b0:(Gv==Yv)=true:=beq_iff_eq.mpr c54;have c54b1:(Gv != Yv)=false:=bne_eq_false_iff_eq.mpr c54;clear c54
            by_cases c55:OI=YN
            ·
             rw [if_pos c55] at H;have c55b0:(OI==YN)=true:=beq_iff_eq.mpr c55;have c55b1:(OI != YN)=false:=bne_eq_false_iff_eq.mpr c55;clear c55
             by_cases c56:(YO.length:Int)>(Yz.length:Int)
             ·
              rw [if_pos c56] at H;have c56b0:decide ((Yz.length:Int)<(YO.length:Int))=true:=decide_eq_true c56;have c56b1:decide (Yz.length<YO.length)=true:=decide_eq_true (Int.ofNat_lt.mp c56);clear c56;replace H:=Option.bind_eq_some_iff.mp H;obtain ⟨qdw,qqk,H⟩:=H;replace H:(some qdw)=some r:=H;have A57:=Q0.mk qqk;clear qqk;obtain rfl:=Option.some.inj H
              go_wp2_with (first|(go_at_call 21;(with_reducible refine (Y7.calls  qdw _ A57.out).mono ?_);rintro e w58 ⟨rfl,hb⟩;have n0_:=Q0.mk (Kd.V_below (by (with_reducible repeat (first|apply Kd.V_alloc|apply Kd.V_drewN|apply Kd.V_drew));exact HO_8.out) hb);have n1_:=Q0.mk (Kd.R_below (by (with_reducible repeat (first|apply Kd.R_alloc|apply Kd.R_drewN|apply Kd.R_drew));exact HO_15.out) hb);have n2_:=Q0.mk (Qe (g:=Jz) (by (with_reducible repeat (first|refine Q4 ?_ _|refine Q7 ?_|refine Q2 ?_ _));exact YW.out) hb);have n3_:=Q0.mk (Qm (by repeat (first|(with_reducible first|exact HB.out|apply Q3|apply Q1|apply Q6|refine Q5 ?_ ZA.out)|exact HB.out)) hb);clear HO_8 HO_15 YW HB;have HO_8:=n0_;have HO_15:=n1_;have YW:=n2_;have HB:=n3_;clear n0_ n1_ n2_ n3_;(try clear hb);(try clear hb2);(try clear hk);(try clear hi)))
              go_ret
              exact ⟨by first|rfl|(simp [Qq,Qr]<;>rfl)|(simp only [← UJ,← UK];first|rfl|(simp [Qq,Qr]<;>rfl))|(simp [*,Qq,Qr]<;>rfl),by repeat (first|(with_reducible first|exact HB.out|apply Q3|apply Q1|apply Q6|refine Q5 ?_ ZA.out)|exact HB.out)⟩
             rw [if_neg c56] at H;have c56b0:decide ((Yz.length:Int)<(YO.length:Int))=false:=decide_eq_false c56;have c56b1:decide (Yz.length<YO.length)=false:=decide_eq_false (fun h=>c56 (Int.ofNat_lt.mpr h));clear c56
             by_cases c59:(YO.length:Int)=(Yz.length:Int)
             ·
              rw [if_pos c59] at H;have c59b0:((YO.length:Int)==(Yz.length:Int))=true:=beq_iff_eq.mpr c59;have c59b1:((YO.length:Int) != (Yz.length:Int))=false:=bne_eq_false_iff_eq.mpr c59
              have c59b2:(YO.length==Yz.length)=true:=by first|simpa using c59|(simp at c59 ⊢;omega)
              clear c59;replace H:=Option.bind_eq_some_iff.mp H;obtain ⟨qbb,qql,H⟩:=H;replace H:(if qbb=true then (some false) else ((Y7.f).bind fun Xh=>(some Xh)))=some r:=H;have A60:=Q0.mk qql;clear qql
              by_cases c61:qbb=true
              ·
               subst c61
               have H1:(some false)=some r:=by rw [if_pos rfl] at H;exact H
               clear H;have H:=H1;clear H1;obtain rfl:=Option.some.inj H
               go_wp2_with (first|(go_at_call 56;(with_reducible refine (Qy.calls qpN _ _ YO _ _ Yz true _ ?side1 ?side2 ?side3 ?side4 A60.out).mono ?_);(case side1=>repeat (first|exact (Kd.R_reads' HO_15.out).2.2|(with_reducible refine Kd.C_alloc ?_ _)|(with_reducible refine Kd.C_drewN ?_ _)|(with_reducible refine Kd.C_drew ?_)));(case side2=>exact (Kd.R_reads' HO_15.out).2.1);(case side3=>repeat (first|exact (Kd.V_reads' HO_8.out).2.2|(with_reducible refine Kd.C_alloc ?_ _)|(with_reducible refine Kd.C_drewN ?_ _)|(with_reducible refine Kd.C_drew ?_)));(case side4=>exact (Kd.V_reads' HO_8.out).2.1);rintro e w' ⟨rfl,⟨nd,rfl⟩⟩))
               go_ret
               exact ⟨by first|rfl|(simp [Qq,Qr]<;>rfl)|(simp only [← UJ,← UK];first|rfl|(simp [Qq,Qr]<;>rfl))|(simp [*,Qq,Qr]<;>rfl),by repeat (first|(with_reducible first|exact HB.out|apply Q3|apply Q1|apply Q6|refine Q5 ?_ ZA.out)|exact HB.out)⟩
              replace c61:=Bool.eq_false_iff.mpr c61;subst c61
              have H1:((Y7.f).bind fun Xh=>(some Xh))=some r:=by rw [if_neg (show ¬ (false=true) by decide)] at H;exact H
              clear H;have H:=H1;clear H1;replace H:=Option.bind_eq_some_iff.mp H;obtain ⟨Xh,qqm,H⟩:=H;replace H:(some Xh)=some r:=H;have A62:=Q0.mk qqm;clear qqm;obtain rfl:=Option.some.inj H
              go_wp2_with (first|(go_at_call 56;(with_reducible refine (Qy.calls qpN _ _ YO _ _ Yz false _ ?side1 ?side2 ?side3 ?side4 A60.out).mono ?_);(case side1=>repeat (first|exact (Kd.R_reads' HO_15.out).2.2|(with_reducible refine Kd.C_alloc ?_ _)|(with_reducible refine Kd.C_drewN ?_ _)|(with_reducible refine Kd.C_drew ?_)));(case side2=>exact (Kd.R_reads' HO_15.out).2.1);(case side3=>repeat (first|exact (Kd.V_reads' HO_8.out).2.2|(with_reducible refine Kd.C_alloc ?_ _)|(with_reducible refine Kd.C_drewN ?_ _)|(with_reducible refine Kd.C_drew ?_)));(case side4=>exact (Kd.V_reads' HO_8.out).2.1);rintro e w' ⟨rfl,⟨nd,rfl⟩⟩)|(go_at_call 21;(with_reducible refine (Y7.calls  Xh _ A62.out).mono ?_);rintro e w63 ⟨rfl,hb⟩;have n0_:=Q0.mk (Kd.V_below (by (with_reducible repeat (first|apply Kd.V_alloc|apply Kd.V_drewN|apply Kd.V_drew));exact HO_8.out) hb);have n1_:=Q0.mk (Kd.R_below (by (with_reducible repeat (first|apply Kd.R_alloc|apply Kd.R_drewN|apply Kd.R_drew));exact HO_15.out) hb);have n2_:=Q0.mk (Qe (g:=Jz) (by (with_reducible repeat (first|refine Q4 ?_ _|refine Q7 ?_|refine Q2 ?_ _));exact YW.out) hb);have n3_:=Q0.mk (Qm (by repeat (first|(with_reducible first|exact HB.out|apply Q3|apply Q1|apply Q6|refine Q5 ?_ ZA.out)|exact HB.out)) hb);clear HO_8 HO_15 YW HB;have HO_8:=n0_;have HO_15:=n1_;have YW:=n2_;have HB:=n3_;clear n0_ n1_ n2_ n3_;(try clear hb);(try clear hb2);(try clear hk);(try clear hi)))
              go_ret
              exact ⟨by first|rfl|(simp [Qq,Qr]<;>rfl)|(simp only [← UJ,← UK];first|rfl|(simp [Qq,Qr]<;>rfl))|(simp [*,Qq,Qr]<;>rfl),by repeat (first|(with_reducible first|exact HB.out|apply Q3|apply Q1|apply Q6|refine Q5 ?_ ZA.out)|exact HB.out)⟩
             rw [if_neg c59] at H;have c59b0:((YO.length:Int)==(Yz.length:Int))=false:=beq_eq_false_iff_ne.mpr c59;have c59b1:((YO.length:Int) != (Yz.length:Int))=true:=bne_iff_ne.mpr c59
             have c59b2:(YO.length==Yz.length)=false:=by first|simpa using c59|(simp at c59 ⊢;omega)
             obtain rfl:=Option.some.inj H
             go_wp2
             go_ret
             exact ⟨by first|rfl|(simp [Qq,Qr]<;>rfl)|(simp only [← UJ,← UK];first|rfl|(simp [Qq,Qr]<;>rfl))|(simp [*,Qq,Qr]<;>rfl),by repeat (first|(with_reducible first|exact HB.out|apply Q3|apply Q1|apply Q6|refine Q5 ?_ ZA.out)|exact HB.out)⟩
            rw [if_neg c55] at H;have c55b0:(OI==YN)=false:=beq_eq_false_iff_ne.mpr c55;have c55b1:(OI != YN)=true:=bne_iff_ne.mpr c55;replace H:=Option.bind_eq_some_iff.mp H;obtain ⟨qdx,qqn,H⟩:=H;replace H:(some qdx)=some r:=H;have A64:=Q0.mk qqn;clear qqn;obtain rfl:=Option.some.inj H
            go_wp2_with (first|(go_at_call 21;(with_reducible refine (Y7.calls  qdx _ A64.out).mono ?_);rintro e w65 ⟨rfl,hb⟩;have n0_:=Q0.mk (Kd.V_below (by (with_reducible repeat (first|apply Kd.V_alloc|apply Kd.V_drewN|apply Kd.V_drew));exact HO_8.out) hb);have n1_:=Q0.mk (Kd.R_below (by (with_reducible repeat (first|apply Kd.R_alloc|apply Kd.R_drewN|apply Kd.R_drew));exact HO_15.out) hb);have n2_:=Q0.mk (Qe (g:=Jz) (by (with_reducible repeat (first|refine Q4 ?_ _|refine Q7 ?_|refine Q2 ?_ _));exact YW.out) hb);have n3_:=Q0.mk (Qm (by repeat (first|(with_reducible first|exact HB.out|apply Q3|apply Q1|apply Q6|refine Q5 ?_ ZA.out)|exact HB.out)) hb);clear HO_8 HO_15 YW HB;have HO_8:=n0_;have HO_15:=n1_;have YW:=n2_;have HB:=n3_;clear n0_ n1_ n2_ n3_;(try clear hb);(try clear hb2);(try clear hk);(try clear hi)))
            go_ret
            exact ⟨by first|rfl|(simp [Qq,Qr]<;>rfl)|(simp only [← UJ,← UK];first|rfl|(simp [Qq,Qr]<;>rfl))|(simp [*,Qq,Qr]<;>rfl),by repeat (first|(with_reducible first|exact HB.out|apply Q3|apply Q1|apply Q6|refine Q5 ?_ ZA.out)|exact HB.out)⟩
           rw [if_neg c54] at H;have c54b0:(Gv==Yv)=false:=beq_eq_false_iff_ne.mpr c54;have c54b1:(Gv != Yv)=true:=bne_iff_ne.mpr c54;replace H:=Option.bind_eq_some_iff.mp H;obtain ⟨qdy,qqo,H⟩:=H;replace H:(some qdy)=some r:=H;have A66:=Q0.mk qqo;clear qqo;obtain rfl:=Option.some.inj H
           go_wp2_with (first|(go_at_call 21;(with_reducible refine (Y7.calls  qdy _ A66.out).mono ?_);rintro e w67 ⟨rfl,hb⟩;have n0_:=Q0.mk (Kd.V_below (by (with_reducible repeat (first|apply Kd.V_alloc|apply Kd.V_drewN|apply Kd.V_drew));exact HO_8.out) hb);have n1_:=Q0.mk (Kd.R_below (by (with_reducible repeat (first|apply Kd.R_alloc|apply Kd.R_drewN|apply Kd.R_drew));exact HO_15.out) hb);have n2_:=Q0.mk (Qe (g:=Jz) (by (with_reducible repeat (first|refine Q4 ?_ _|refine Q7 ?_|refine Q2 ?_ _));exact YW.out) hb);have n3_:=Q0.mk (Qm (by repeat (first|(with_reducible first|exact HB.out|apply Q3|apply Q1|apply Q6|refine Q5 ?_ ZA.out)|exact HB.out)) hb);clear HO_8 HO_15 YW HB;have HO_8:=n0_;have HO_15:=n1_;have YW:=n2_;have HB:=n3_;clear n0_ n1_ n2_ n3_;(try clear hb);(try clear hb2);(try clear hk);(try clear hi)))
           go_ret
           exact ⟨by first|rfl|(simp [Qq,Qr]<;>rfl)|(simp only [← UJ,← UK];first|rfl|(simp [Qq,Qr]<;>rfl))|(simp [*,Qq,Qr]<;>rfl),by repeat (first|(with_reducible first|exact HB.out|apply Q3|apply Q1|apply Q6|refine Q5 ?_ ZA.out)|exact HB.out)⟩
        rw [if_neg c39] at H
        exact absurd H (by simp)
       rw [if_neg c38] at H
       exact absurd H (by simp)
end
section
attribute [local go_sem] Yn Yp YA YC Yb Yc Yo Yq
end
section
attribute [local go_sem] Yn Yp YA YC Yb Yc Yo Yq
end
end Go.Proofs.Ytmhomdohhihlcaa.P
namespace Go.Proofs.Ytmhomdohhihlcaa.P
open Go.RowKit Go.ChangeShapes Go.WideShapes Go.Proofs.YtmhomdohhihlcaaW.PrintWords Go.Proofs.YtmhomdohhihlcaaW.PrintLast Go.Proofs.YtmhomdohhihlcaaW.PrintMore
def Wl {α:Type} (d:Kd α) (t:TypeId) (p:α→Prop):Prop:=∀ (H:Type) (enc:TypeId × Value→H) (w:World) (fuel:Nat) (cs:List Value) (x:DataW H × List MemPlace),
 DataW.trod enc Try.prog w 0 (fun _=>true) true fuel t cs=some x → ∃ a,d.K w a cs∧p a
def Wf (n:Int):Prop:=(Lit.int .i64 n).wf=true
theorem qjp:Wl (Kd.int .i64) 3 Wf:=fun H enc w fuel cs x h=>by
 obtain ⟨n,rfl,_,hw⟩:=DataW.trod_int Try.underlying3 h
 exact ⟨n,rfl,hw⟩
theorem qf7 {α:Type} {d:Kd α} {e e' t:TypeId} {p:α→Prop} (h:Wl d e p) (ht:Try.prog.underlying t=some (.slice e)) (hc:Try.prog.cellsOf e=d.sz):Wl (Kd.slice e' d) t (fun xs => ∀ x∈xs,p x):=fun H enc w fuel cs x hf=>by
 rcases Deep.open_slice ht hf with ⟨rfl,_⟩|⟨a,len,cap,m,n,D,Pl,rfl,_,hl,hm,hmm,_,hx⟩
 ·
  exact ⟨[],⟨none,0,rfl,Nat.le_refl _,Kd.C_nil d w⟩,fun x hx=>by simp at hx⟩
 ·
  have each:∀ i,i<len → ∃ z:α,(∃ c,c.length=d.sz∧d.K w z c ∧ ∀ j u,c[j]? = some u→w.cell? (a.add (i*d.sz+j))=some u)∧p z:=fun i hi=>by
   obtain ⟨cs',h1,h2⟩:=hx i (by simp only [if_true] at hmm;omega)
   obtain ⟨z,hz,hp⟩:=h H enc w n cs' _ h2
   obtain ⟨_,hcl,hat⟩:=World.cells?_some h1
   refine ⟨z,⟨cs',d.K_len hz,hz,fun j u hu => ?_⟩,hp⟩
   have hj:j<cs'.length:=(List.getElem?_eq_some_iff.1 hu).1
   rw [d.K_len hz] at hj
   have hj':j<Try.prog.cellsOf e:=by rw [hc];exact hj
   have h3:=hat j hj'
   rw [Deep.add_add,hc] at h3
   rw [h3]
   exact hu
  by_cases h0:len=0
  ·
   subst h0
   exact ⟨[],⟨some a,cap,rfl,by simp,⟨rfl,by simp,fun hh=>by simp at hh⟩⟩,fun x hx=>by simp at hx⟩
  ·
   obtain ⟨z0,_⟩:=each 0 (by omega)
   have inst:Inhabited α:=⟨z0⟩
   obtain ⟨f,hfz⟩:=Deep.choose_lt each
   have hmx:cap≤9223372036854775807:=by unfold maxLen at hm;omega
   refine ⟨(List.range len).map f,⟨some a,cap,by simp,by simpa using hl,⟨rfl,by simp;omega,fun _=>⟨a,rfl,fun j q hj => ?_⟩⟩⟩,fun x hx => ?_⟩
   ·
    have hj2:j<len:=by have:=(List.getElem?_eq_some_iff.1 hj).1;simpa using this
    rw [List.getElem?_map,List.getElem?_range hj2] at hj
    injection hj with hj
    subst hj;obtain ⟨c,c1,c2,c3⟩:=(hfz j hj2).1
    exact ⟨c,c1,c2,c3⟩
   ·
    obtain ⟨i,hi,rfl⟩:=List.mem_map.1 hx
    exact (hfz i (List.mem_range.1 hi)).2
theorem c3:Try.prog.cellsOf 3=1:=by kernel_rfl
theorem c25:Try.prog.cellsOf 25=2:=by kernel_rfl
theorem qq6:Try.prog.cellsOf 136=2:=by kernel_rfl
theorem c37:Try.prog.cellsOf 37=1:=by kernel_rfl
theorem c32:Try.prog.cellsOf 32=1:=by kernel_rfl
theorem c63:Try.prog.cellsOf 63=1:=by kernel_rfl
theorem c44:Try.prog.cellsOf 44=1:=by kernel_rfl
theorem c45:Try.prog.cellsOf 45=1:=by kernel_rfl
theorem c39:Try.prog.cellsOf 39=5:=by kernel_rfl
theorem c47:Try.prog.cellsOf 47=3:=by kernel_rfl
theorem c23:Try.prog.cellsOf 23=2:=by kernel_rfl
theorem qtc {α:Type} {l:List α} (h:l.length=2):∃ a b,l=[a,b]:=by
 match l,h with
 | [a,b],_=>exact ⟨a,b,rfl⟩
theorem qex {α:Type} {l:List α} {i:Nat} {o:Option α} (hi:i<l.length) (h:o=l[i]?):∃ y,o=some y:=⟨l[i],by rw [h,List.getElem?_eq_getElem hi]⟩
def qo7 (s:YQ):Prop:=Wf s.f0∧Wf s.f1
theorem qjo:Wl W7 136 qo7:=fun H enc w fuel cs x h=>by
 obtain ⟨xs,n,_,_,hl,hxl,hf⟩:=DataW.trod_struct Try.underlying136 h
 rw [qq6] at hl
 obtain ⟨a,b,rfl⟩:=qtc hl
 have h0:DataW.trod enc Try.prog w 0 (fun _=>true) true n 3 (([a,b].drop 0).take (Try.prog.cellsOf 3))=xs[0]?:=hf 0 _ rfl
 have h1:DataW.trod enc Try.prog w 0 (fun _=>true) true n 3 (([a,b].drop 1).take (Try.prog.cellsOf 3))=xs[1]?:=hf 1 _ rfl
 rw [c3] at h0 h1
 have hx2:xs.length=2:=hxl
 obtain ⟨y0,e0⟩:=qex (by omega) h0
 obtain ⟨y1,e1⟩:=qex (by omega) h1
 obtain ⟨n0,q0,_,g0⟩:=DataW.trod_int Try.underlying3 e0
 obtain ⟨n1,q1,_,g1⟩:=DataW.trod_int Try.underlying3 e1
 replace q0:[a]=[Value.int .i64 n0]:=q0
 replace q1:[b]=[Value.int .i64 n1]:=q1
 injection q0 with q0
 injection q1 with q1
 subst q0 q1
 exact ⟨⟨n0,n1⟩,qni w ⟨n0,n1⟩,g0,g1⟩
theorem qf5:Wl (Kd.slice 136 W7) 62 (fun l => ∀ x∈l,qo7 x):=qf7 qjo Try.underlying62 qq6
section
variable {H:Type} {enc:TypeId × Value→H} {W:World} {d:DataW H} {ps:List MemPlace}
theorem qi0 {α:Type} {k:Kd α} {t e':TypeId} {p:List α→Prop} (hr:Wl (Kd.slice e' k) t p) {a:Option Addr} {len cap:Nat} (h:DataW.Trod enc Try.prog W 0 (fun _=>true) true t (.slice a len cap) d ps) :
  ∃ l:List α,len=l.length∧Kd.C k W a l.length l∧l.length≤cap∧p l:=by
 obtain ⟨fuel,hf⟩:=h
 obtain ⟨l,⟨A,c,e1,hc,hC⟩,hp⟩:=hr H enc W fuel _ _ hf
 replace e1:[Value.slice a len cap]=[Value.slice A l.length c]:=e1
 injection e1 with e1
 injection e1 with e1 e2 e3
 subst e1 e2 e3
 exact ⟨l,rfl,hC,hc,hp⟩
theorem qfd {t e:TypeId} {a:Option Addr} {len cap:Nat} {ts:List TypeId} {ds:List (DataW H)} {j:Nat} {B:Nat}
  (hsz:(DataW.weightsEach Try.prog ts ds).all (· ≤ reachBytes)=true) (ht:ts[j]? = some t) (hd:ds[j]? = some d) (hu:Try.prog.underlying t=some (.slice e)) (hB:Try.prog.bytesOf e=B)
  (h:DataW.Trod enc Try.prog W 0 (fun _=>true) true t (.slice a len cap) d ps):len*B≤140737488351232:=by
 obtain ⟨fuel,hf⟩:=h
 rcases Deep.open_slice hu hf with ⟨hcs,_⟩|⟨a',len',cap',m,n,D,Pl,hcs,_,hl,_,hmm,hx,_⟩
 ·
  replace hcs:[Value.slice a len cap]=[Value.slice none 0 0]:=hcs
  injection hcs with hcs
  injection hcs with _ h2 _
  subst h2
  simp
 ·
  replace hcs:[Value.slice a len cap]=[Value.slice (some a') len' cap']:=hcs
  injection hcs with hcs
  injection hcs with _ h2 _
  subst h2
  injection hx with hx _
  rw [hx] at hd
  have z:=sized_slice hsz ht hd hu
  rw [hB] at z
  have hrb:reachBytes=140737488351232:=by decide
  rw [hrb] at z
  simp only [List.length_map,List.length_range] at z
  exact Nat.le_trans (Nat.mul_le_mul_right _ (by omega)) z
theorem qeq {r:Reach} {base:Nat} {t e:TypeId} {n:Nat} {v:Value} (ht:Try.prog.underlying t=some (.array n e)) (h:Value.okWide Try.prog W r base t v):∃ cs,v = .agg cs:=by
 simp only [Value.okWide,ht] at h
 obtain ⟨cs,h1,_⟩:=h
 exact ⟨cs,h1⟩
theorem qpe {n:Nat} {t:TypeId} (ht:Try.prog.underlying t=some (.array n 3)) {fuel:Nat} {l:List Value} {x:DataW H × List MemPlace} (h:DataW.trod enc Try.prog W 0 (fun _=>true) true fuel t l=some x) :
  l.length=Try.prog.cellsOf t ∧ ∀ i v,i<n→l[i]? = some v → ∃ m,v = .int .i64 m∧Wf m:=by
 obtain ⟨xs,m,_,_,hl,hxl,hf⟩:=DataW.trod_array ht h
 refine ⟨hl,fun i v hi hv => ?_⟩
 have h1:=hf i hi
 rw [c3,Nat.mul_one] at h1
 obtain ⟨y,e⟩:=qex (by omega) h1
 obtain ⟨n',q,_,g⟩:=DataW.trod_int Try.underlying3 e
 obtain ⟨hil,hv'⟩:=List.getElem?_eq_some_iff.1 hv
 rw [List.drop_eq_getElem_cons hil,hv'] at q
 injection q with q
 exact ⟨n',q,g⟩
theorem qpd {cs:Array Value} (h:DataW.Trod enc Try.prog W 0 (fun _=>true) true 23 (.agg cs) d ps):∃ a b:Int,cs=#[.int .i64 a,.int .i64 b]∧Wf a∧Wf b:=by
 obtain ⟨fuel,hf⟩:=h
 obtain ⟨hl,hat⟩:=qpe Try.underlying23 (show DataW.trod enc Try.prog W 0 (fun _=>true) true fuel 23 cs.toList=some (d,ps) from hf)
 rw [c23] at hl
 obtain ⟨a,b,e⟩:=qtc hl
 rw [e] at hat
 obtain ⟨m0,rfl,g0⟩:=hat 0 _ (by omega) rfl
 obtain ⟨m1,rfl,g1⟩:=hat 1 _ (by omega) rfl
 exact ⟨m0,m1,Array.toList_inj.1 e,g0,g1⟩
end
end Go.Proofs.Ytmhomdohhihlcaa.P
namespace Go.Proofs.Ytmhomdohhihlcaa.P
open Go.RowKit Go.Proofs.YtmhomdohhihlcaaW.PrintWords Go.Proofs.YtmhomdohhihlcaaW.PrintLast Go.Proofs.YtmhomdohhihlcaaW.PrintMore
section
theorem modP (a b:Int) (hb:0<b) (hb2:b≤4611686018427387904):Zj.f a b=some (a % b):=by
 unfold Zj.f
 rw [if_neg (by omega)]
 have h1:=Int.tmod_lt_of_pos a hb
 have h2:Int.tmod a b=a % b∨Int.tmod a b=a % b-b:=by
  rw [Int.tmod_eq_emod]
  split
  ·
   left;simp
  ·
   right
   have:(b.natAbs:Int)=b:=by omega
   rw [this]
 have h3:=Int.emod_nonneg a (by omega:b≠0)
 have h4:=Int.emod_lt_of_pos a hb
 rcases h2 with h2|h2
 ·
  rw [if_neg (by omega),h2]
 ·
  rw [if_pos (by omega),h2]
  congr 1
  unfold wrap64
  omega
theorem modB (a b:Int) (hb:0<b) (hb2:b≤4611686018427387904):∃ m,Zj.f a b=some m∧0≤m∧m<b :=
 ⟨a % b,modP a b hb hb2,Int.emod_nonneg a (by omega),Int.emod_lt_of_pos a hb⟩
end
section
attribute [local go_sem] Yn Yp YA YC Yb Yc Yo Yq
end
section
attribute [local go_sem] Yn Yp YA YC Yb Yc Yo Yq
end
section
attribute [local go_sem] Yn Yp YA YC Yb Yc Yo Yq
end
section
attribute [local go_sem] Yn Yp YA YC Yb Yc Yo Yq
end
section
def bef:List Int→List Int→Bool
 | [],[]=>false
 | [],_::_=>true
 | _::_,[]=>false
 | x::xs,y::ys=>if x=y then bef xs ys else decide (x<y)
theorem qib:∀ a:List Int,bef a a=false
 | []=>rfl
 | x::xs=>by rw [bef,if_pos rfl];exact qib xs
theorem qfe:∀ a b:List Int,bef a b=true→bef b a=false
 | [],[],_=>rfl
 | [],_::_,_=>rfl
 | _::_,[],h=>by simp [bef] at h
 | x::xs,y::ys,h=>by
  rw [bef] at h ⊢
  by_cases c:x=y
  ·
   rw [if_pos c] at h;rw [if_pos c.symm];exact qfe xs ys h
  ·
   rw [if_neg c,decide_eq_true_eq] at h
   rw [if_neg (fun e=>c e.symm)]
   exact decide_eq_false (by omega)
theorem qkb (x y:Int) (h:x<y) (xs ys:List Int):∀ so:List Int,bef (so++x::xs) (so++y::ys)=true
 | []=>by rw [List.nil_append,List.nil_append,bef,if_neg (by omega)];exact decide_eq_true h
 | z::so=>by rw [List.cons_append,List.cons_append,bef,if_pos rfl];exact qkb x y h xs ys so
def ris (n:Int):Int→List Int→Bool
 | _,[]=>true
 | lo,x::xs=>decide (lo≤x∧x<n)&&ris n (x+1) xs
theorem JL {n lo x:Int} {xs:List Int}:ris n lo (x::xs)=true↔lo≤x∧x<n∧ris n (x+1) xs=true:=by
 rw [ris,Bool.and_eq_true,decide_eq_true_eq,and_assoc]
theorem qhC {n:Int}:∀ {t:List Int} {lo lo':Int},lo'≤lo→ris n lo t=true→ris n lo' t=true
 | [],_,_,_,_=>rfl
 | x::xs,lo,lo',h,k=>by
  rw [JL] at k ⊢
  exact ⟨by omega,k.2⟩
theorem qb0 {n:Int}:∀ {t:List Int} {lo:Int},lo≤n→ris n lo t=true→(t.length:Int)≤n-lo
 | [],lo,h,_=>by simp;omega
 | x::xs,lo,h,k=>by
  rw [JL] at k
  have:=qb0 (by omega) k.2.2
  rw [List.length_cons]
  push_cast
  omega
theorem WY {n:Int}:∀ {t:List Int} {lo:Int},ris n lo t=true → ∀ x∈t,lo≤x∧x<n
 | [],_,_,x,hx=>by simp at hx
 | y::ys,lo,k,x,hx=>by
  rw [JL] at k
  rcases List.mem_cons.1 hx with rfl|hx
  ·
   exact ⟨k.1,k.2.1⟩
  ·
   have:=WY k.2.2 x hx
   exact ⟨by omega,this.2⟩
theorem qga {n:Int}:∀ {t:List Int} {lo:Int} (m:Nat),ris n lo t=true→ris n lo (t.take m)=true
 | [],_,m,_=>by simp [ris]
 | x::xs,lo,0,_=>rfl
 | x::xs,lo,m+1,k=>by
  rw [JL] at k
  rw [List.take_succ_cons,JL]
  exact ⟨k.1,k.2.1,qga m k.2.2⟩
section
variable (V:List Int→Int × Int)
def bet (q p:List Int):Prop:=(V p).1<(V q).1∨((V q).1=(V p).1∧((V q).2<(V p).2∨((V q).2=(V p).2∧(q.length<p.length∨(q.length=p.length∧bef q p=true)))))
theorem qic (p:List Int):¬bet V p p:=by
 unfold bet
 rw [qib]
 simp
structure Inv (P:List Int→Prop) (st:BSt):Prop where
 mem:P st.ch
 val:V st.ch=(st.sp,st.lo)
 best:∀ q,P q → ¬bet V q st.ch
theorem Inv.iff {P Q:List Int→Prop} {st:BSt} (h:Inv V P st) (e:∀ q,P q↔Q q):Inv V Q st:=⟨(e _).1 h.mem,h.val,fun q hq=>h.best q ((e q).2 hq)⟩
def RR (a b:List Int):Prop:=a.length<b.length∨(a.length=b.length∧bef a b=true)
end
section
variable (cells:List YQ) (sets:List Int)
def oxP (so:List Int):Int:=so.foldl (fun x i=>Go.bits .or .i64 x (rd sets i)) 0
theorem qnq (so:List Int) (i:Int):oxP sets (so++[i])=Go.bits .or .i64 (oxP sets so) (rd sets i):=by simp [oxP]
def vP (so:List Int):Int × Int:=QP.s cells (oxP sets so)
theorem qnh {P:List Int→Prop} {st:BSt} (so:List Int) (h:Inv (vP cells sets) P st) (hR:∀ q,P q→RR q so):Inv (vP cells sets) (fun q=>P q∨q=so) (Qn.upd cells so (oxP sets so) st):=by
 obtain ⟨h1,h2,h3⟩:=h
 have e:QP.s cells (oxP sets so)=vP cells sets so:=rfl
 unfold Qn.upd
 rw [e]
 by_cases c:st.sp<(vP cells sets so).1∨((vP cells sets so).1=st.sp∧(vP cells sets so).2<st.lo)
 ·
  rw [if_pos c]
  refine ⟨.inr rfl,rfl,fun q hq => ?_⟩
  dsimp only
  rcases hq with hq|rfl
  ·
   have:=h3 q hq
   unfold bet at this ⊢
   rw [h2] at this
   dsimp only at this
   omega
  ·
   exact qic _ _
 ·
  rw [if_neg c]
  refine ⟨.inl h1,h2,fun q hq => ?_⟩
  rcases hq with hq|rfl
  ·
   exact h3 q hq
  ·
   have r:=hR _ h1
   unfold RR at r
   unfold bet
   rw [h2]
   dsimp only
   rcases r with r|⟨r,b⟩
   ·
    omega
   ·
    rw [qfe _ _ b];simp only [Bool.false_eq_true,and_false,or_false]
    omega
theorem qg4 (many:Nat):∀ (d:Nat) (so:List Int) (st:BSt) (P:List Int→Prop),d≤sets.length→so.length<many→Inv (vP cells sets) P st →
  (∀ q,P q → ∀ t:List Int,t≠[]→ris (sets.length:Int) ((sets.length-d:Nat):Int) t=true→(so++t).length=many→RR q (so++t)) →
  Inv (vP cells sets) (fun q=>P q ∨ ∃ t:List Int,t≠[]∧ris (sets.length:Int) ((sets.length-d:Nat):Int) t=true∧(so++t).length=many∧q=so++t) (Qn.lp cells sets (many:Int) d so (oxP sets so) st)
 | 0,so,st,P,_,_,hI,_=>by
  rw [Qn.lp]
  refine hI.iff _ (fun q=>⟨.inl,fun h => ?_⟩)
  rcases h with h|⟨t,ht,hr,_,_⟩
  ·
   exact h
  ·
   match t,ht with
   | x::xs,_ =>
    rw [JL] at hr
    omega
 | d+1,so,st,P,hd,hso,hI,hR=>by
  obtain ⟨i,hi⟩:∃ i:Nat,i=sets.length-(d+1):=⟨_,rfl⟩
  have hi1:sets.length-d=i+1:=by omega
  have hi2:i<sets.length:=by omega
  rw [Qn.lp,← hi,← qnq]
  rw [← hi] at hR
  have hd':d≤sets.length:=by omega
  have A:Inv (vP cells sets) (fun q=>P q ∨ ∃ t:List Int,ris (sets.length:Int) ((i+1:Nat):Int) t=true∧(so++(i:Int)::t).length=many∧q=so++(i:Int)::t)
    (if (((so.length+1:Nat):Int))=(many:Int) then Qn.upd cells (so++[(i:Int)]) (oxP sets (so++[(i:Int)])) st else Qn.lp cells sets (many:Int) d (so++[(i:Int)]) (oxP sets (so++[(i:Int)])) st):=by
   by_cases c:(((so.length+1:Nat):Int))=(many:Int)
   ·
    rw [if_pos c];refine (qnh cells sets (so++[(i:Int)]) hI (fun q hq=>hR q hq [(i:Int)] (by simp) (by rw [JL];exact ⟨Int.le_refl _,by omega,rfl⟩) (by simp;omega))).iff _ (fun q => ?_)
    constructor
    ·
     rintro (h|h)
     ·
      exact .inl h
     ·
      exact .inr ⟨[],rfl,by simp;omega,h⟩
    ·
     rintro (h|⟨t,hr,hl,h⟩)
     ·
      exact .inl h
     ·
      have:t=[]:=by
       have hl2:t.length=0:=by simp at hl;omega
       exact List.length_eq_zero_iff.1 hl2
      subst this
      exact .inr h
   ·
    rw [if_neg c]
    have hl0:(so++[(i:Int)]).length<many:=by simp;omega
    have:=qg4 many d (so++[(i:Int)]) st P hd' hl0 hI (fun q hq t ht hr hl=>by
     rw [List.append_assoc] at hl ⊢;refine hR q hq ((i:Int)::t) (by simp) ?_ hl;rw [hi1] at hr;rw [JL]
     exact ⟨Int.le_refl _,by omega,by push_cast at hr;exact hr⟩)
    refine this.iff _ (fun q => ?_);rw [hi1]
    constructor
    ·
     rintro (h|⟨t,ht,hr,hl,h⟩)
     ·
      exact .inl h
     ·
      rw [List.append_assoc] at h hl
      exact .inr ⟨t,hr,hl,h⟩
    ·
     rintro (h|⟨t,hr,hl,h⟩)
     ·
      exact .inl h
     ·
      refine .inr ⟨t,?_,hr,by rw [List.append_assoc];exact hl,by rw [List.append_assoc];exact h⟩;rintro rfl
      simp at hl
      omega
  refine (qg4 many d so _ _ hd' hso A (fun q hq t ht hr hl => ?_)).iff _ (fun q => ?_)
  ·
   rw [hi1] at hr
   rcases hq with hq|⟨t',hr',hl',rfl⟩
   ·
    exact hR q hq t ht (qhC (by push_cast;omega) hr) hl
   ·
    match t,ht with
    | y::ys,_ =>
     rw [JL] at hr
     exact .inr ⟨by omega,qkb _ _ (by push_cast at hr;omega) _ _ _⟩
  ·
   rw [hi1]
   constructor
   ·
    rintro ((h|⟨t,hr,hl,h⟩)|⟨t,ht,hr,hl,h⟩)
    ·
     exact .inl h
    ·
     exact .inr ⟨(i:Int)::t,by simp,by rw [JL];exact ⟨Int.le_refl _,by omega,by push_cast at hr;exact hr⟩,hl,h⟩
    ·
     exact .inr ⟨t,ht,qhC (by push_cast;omega) hr,hl,h⟩
   ·
    rintro (h|⟨t,ht,hr,hl,h⟩)
    ·
     exact .inl (.inl h)
    ·
     match t,ht with
     | x::xs,_ =>
      rw [JL] at hr
      by_cases c:x=(i:Int)
      ·
       subst c
       exact .inl (.inr ⟨xs,by push_cast;exact hr.2.2,hl,h⟩)
      ·
       exact .inr ⟨x::xs,by simp,by rw [JL];exact ⟨by push_cast;omega,hr.2⟩,hl,h⟩
theorem qdm:∀ (k many:Nat) (st:BSt),1≤many→Inv (vP cells sets) (fun q=>ris (sets.length:Int) 0 q=true∧q.length<many) st →
  Inv (vP cells sets) (fun q=>ris (sets.length:Int) 0 q=true∧q.length<many+k) (Qn.tries cells sets k many st)
 | 0,many,st,_,h=>h
 | k+1,many,st,hm,h=>by
  rw [Qn.tries,Qn.cz,if_neg (by simp;omega)]
  have h2:=qg4 cells sets many sets.length [] st _ (Nat.le_refl _) (by simp;omega) h (fun q hq t ht hr hl=>by
   rw [List.nil_append] at hl ⊢
   exact .inl (by omega))
  have h3:=qdm k (many+1) (Qn.lp cells sets (many:Int) sets.length [] (oxP sets []) st) (by omega) (h2.iff _ (fun q=>by
   rw [Nat.sub_self]
   constructor
   ·
    rintro (⟨h,k⟩|⟨t,ht,hr,hl,rfl⟩)
    ·
     exact ⟨h,by omega⟩
    ·
     exact ⟨hr,by simp only [List.nil_append] at hl ⊢;omega⟩
   ·
    rintro ⟨h,k⟩
    by_cases c:q.length<many
    ·
     exact .inl ⟨h,c⟩
    ·
     refine .inr ⟨q,?_,h,by simp;omega,rfl⟩;rintro rfl
     simp at c
     omega))
  refine h3.iff _ (fun q => ?_)
  have:many+1+k=many+(k+1):=by omega
  rw [this]
theorem qhH (M:Nat):Inv (vP cells sets) (fun q=>ris (sets.length:Int) 0 q=true∧q.length≤M) (Qn.tries cells sets (M+1) 0 ⟨[],0,0⟩):=by
 have hz:QP.s cells 0=(0,0):=qb1 cells 0 0 0
 have e:Qn.tries cells sets (M+1) 0 ⟨[],0,0⟩=Qn.tries cells sets M 1 ⟨[],0,0⟩:=by
  rw [Qn.tries,Qn.cz,if_pos (by simp),Qn.upd,hz,if_neg (by simp)]
 rw [e]
 refine (qdm cells sets M 1 ⟨[],0,0⟩ (Nat.le_refl _) ⟨⟨rfl,by simp⟩,hz,fun q hq => ?_⟩).iff _ (fun q => ?_)
 ·
  have:q=[]:=List.length_eq_zero_iff.1 (by omega)
  subst this
  exact qic _ _
 ·
  constructor
  ·
   rintro ⟨h,k⟩;exact ⟨h,by omega⟩
  ·
   rintro ⟨h,k⟩;exact ⟨h,by omega⟩
end
end
section
attribute [local go_sem] Yn Yp YA YC Yb Yc Yo Yq
end
section
attribute [local go_sem] Yn Yp YA YC Yb Yc Yo Yq
end
section
attribute [local go_sem] Yn Yp YA YC Yb Yc Yo Yq
attribute [local go_sem high] qkp
end
section
theorem XD (a b c:Int):YX.f a b c=some (wi a b c):=by
 unfold YX.f wi
 by_cases h:b≤a
 ·
  rw [if_pos h];simp [h]
 ·
  rw [if_neg h];simp [h]
def sp (a b h:Int):Bool:=decide (0≤a∧a≤b∧b≤h)
theorem wr1 (i n:Nat) (h:i<n) (hn:(n:Int)≤9223372036854775807):wrap64 ((i:Int)+1)=((i+1:Nat):Int):=by unfold wrap64;omega
end
section
theorem rdB (l:List Int) (i:Nat) (h:i<l.length):rd l (i:Int)=l[i]:=by simp [rd,List.getD_eq_getElem?_getD,List.getElem?_eq_getElem h]
theorem qnE (l:List (List Int)) (i:Nat) (h:i<l.length):QB l (i:Int)=l[i]:=by simp [QB,List.getD_eq_getElem?_getD,List.getElem?_eq_getElem h]
theorem qp4 (l:List YQ) (i:Nat) (h:i<l.length):ZM l (i:Int)=l[i]:=by simp [ZM,List.getD_eq_getElem?_getD,List.getElem?_eq_getElem h]
theorem qaM (n:Int) (h0:0≤n) (h1:n<2 ^ 62):IntKind.i64.wrap n=n:=by
 have e:(2:Int) ^ 62=4611686018427387904:=by decide
 rw [e] at h1
 rw [Yj]
 unfold wrap64
 omega
theorem orN (a b:Nat) (ha:a<2 ^ 62) (hb:b<2 ^ 62):Go.bits .or .i64 (a:Int) (b:Int)=((a ||| b:Nat):Int):=(bits_nat .i64 62 (by decide) qaM a b ha hb).2
theorem shrN (m i:Nat) (hi:i≤62):shr .i64 (m:Int) (i:Int)=((m / 2 ^ i:Nat):Int):=by
 unfold shr
 rw [Int.toNat_natCast,Nat.min_eq_left (by show i≤64;omega)]
 push_cast
 rfl
theorem bitN (m i:Nat) (hm:m<2 ^ 62) (hi:i≤62):(Go.bits .and .i64 (shr .i64 (m:Int) (i:Int)) 1==1)=m.testBit i:=by
 rw [shrN m i hi]
 have h1:m / 2 ^ i<2 ^ 62:=Nat.lt_of_le_of_lt (Nat.div_le_self _ _) hm
 have h2:=(bits_nat .i64 62 (by decide) qaM (m / 2 ^ i) 1 h1 (by decide)).1
 rw [show ((1:Nat):Int)=1 from rfl] at h2
 rw [h2,Nat.and_one_is_mod,Nat.testBit_eq_decide_div_mod_eq]
 by_cases c:m / 2 ^ i % 2=1
 ·
  rw [c,decide_eq_true rfl];rfl
 ·
  rw [decide_eq_false c,beq_eq_false_iff_ne]
  intro e
  exact c (by omega)
theorem shlN (c:Nat) (hc:c≤61):shl .i64 1 (c:Int)=((2 ^ c:Nat):Int):=by
 unfold shl
 rw [Int.toNat_natCast,Nat.min_eq_left (by show c≤64;omega),Int.one_mul]
 have e:(2:Int) ^ c=((2 ^ c:Nat):Int):=by push_cast;rfl
 rw [e]
 refine qaM _ (Int.natCast_nonneg _) ?_
 have:2 ^ c<2 ^ 62:=Nat.pow_lt_pow_right (by decide) (by omega)
 exact_mod_cast this
def mk:Nat→List Int→Nat
 | acc,[]=>acc
 | acc,c::cs=>mk (acc ||| 2 ^ c.toNat) cs
theorem qoL (m:Nat) (hm:m≤12):∀ (l:List Int) (lo:Int) (acc:Nat),0≤lo→ris (m:Int) lo l=true→acc<2 ^ 12→mk acc l<2 ^ 12
 | [],_,_,_,_,h=>h
 | c::cs,lo,acc,h0,hr,h=>by
  rw [JL] at hr
  refine qoL m hm cs (c+1) _ (by omega) hr.2.2 (Nat.or_lt_two_pow h (Nat.pow_lt_pow_right (by decide) (by omega)))
theorem qkX:∀ (l:List Int) (acc j:Nat),(∀ x∈l,0≤x)→(mk acc l).testBit j=(acc.testBit j||decide ((j:Int)∈l))
 | [],acc,j,_=>by simp [mk]
 | c::cs,acc,j,h=>by
  have h0:=h c (by simp)
  rw [mk,qkX cs _ j (fun x hx=>h x (by simp [hx])),Nat.testBit_or,Nat.testBit_two_pow,Bool.or_assoc]
  congr 1
  by_cases e:c=(j:Int)
  ·
   subst e
   simp
  ·
   have e2:¬(c.toNat=j):=by omega
   have e3:¬((j:Int)=c):=fun x=>e x.symm
   simp [e2,e3]
theorem qiG (m:Nat) (hm:m≤12):∀ (l:List Int) (last:Int) (acc:Nat),-1≤last→acc<2 ^ 12→Qn.rowf (m:Int) l last (acc:Int)=if ris (m:Int) (last+1) l=true then some ((mk acc l:Nat):Int) else none
 | [],last,acc,_,_=>by rw [Qn.rowf,ris,if_pos rfl];rfl
 | c::cs,last,acc,h0,ha=>by
  rw [Qn.rowf]
  by_cases e:wi c (last+1) ((m:Int)-1)=true
  ·
   obtain ⟨e0,e1⟩:=Og.1 e
   obtain ⟨q,rfl⟩:∃ q:Nat,c=(q:Int):=⟨c.toNat,by omega⟩
   have hq:q≤11:=by omega
   have hp:2 ^ q<2 ^ 12:=Nat.pow_lt_pow_right (by decide) (by omega)
   have b1:acc<2 ^ 62:=Nat.lt_trans ha (by decide)
   have b2:2 ^ q<2 ^ 62:=Nat.lt_trans hp (by decide)
   rw [if_pos e,shlN q (by omega),orN acc (2 ^ q) b1 b2,qiG m hm cs (q:Int) _ (by omega) (Nat.or_lt_two_pow ha hp)]
   have e2:ris (m:Int) (last+1) ((q:Int)::cs)=ris (m:Int) ((q:Int)+1) cs:=by
    rw [ris,decide_eq_true (by omega),Bool.true_and]
   rw [e2,mk,Int.toNat_natCast]
  ·
   rw [if_neg e]
   have e2:ris (m:Int) (last+1) (c::cs)=false:=by
    rw [ris,decide_eq_false,Bool.false_and];intro h
    exact e (Og.2 ⟨h.1,by omega⟩)
   rw [e2,if_neg (by decide)]
theorem qev (m:Nat) (hm:m≤12):∀ (l1:List (List Int)),Qn.rows (m:Int) l1=if l1.all (ris (m:Int) 0)=true then some (l1.map fun l=>((mk 0 l:Nat):Int)) else none
 | []=>by rw [Qn.rows];rfl
 | l::ls=>by
  have h:=qiG m hm l (-1) 0 (by decide) (by decide)
  rw [show (-1:Int)+1=0 from rfl,show ((0:Nat):Int)=0 from rfl] at h
  rw [Qn.rows,h,qev m hm ls,List.all_cons]
  cases ris (m:Int) 0 l<;>cases ls.all (ris (m:Int) 0)<;>simp
theorem qg8:∀ (l0:List YQ) (b:Bool),Qn.okc l0 b=(b&&l0.all fun c=>wi c.f0 0 10000&&wi c.f1 0 10000)
 | [],b=>by simp [Qn.okc]
 | c::cs,b=>by rw [Qn.okc,qg8 cs,List.all_cons];simp only [Bool.and_assoc]
def ws (p:Nat→Bool):Nat→List YQ→Int→Int→Int × Int
 | _,[],a,b=>(a,b)
 | i,c::cs,a,b=>if p i=true then ws p (i+1) cs (wrap64 (a+c.f0)) (wrap64 (b+c.f1)) else ws p (i+1) cs a b
theorem qaR (x:Nat) (hx:x<2 ^ 62):∀ (cs:List YQ) (i:Nat) (a b:Int),i+cs.length≤62→QP.l (x:Int) i cs a b=ws (fun c=>x.testBit c) i cs a b
 | [],_,_,_,_=>rfl
 | c::cs,i,a,b,h=>by
  rw [List.length_cons] at h
  rw [QP.l,ws,bitN x i hx (by omega),qaR x hx cs (i+1) _ _ (by omega),qaR x hx cs (i+1) _ _ (by omega)]
def cov (l1:List (List Int)) (so:List Int) (c:Nat):Bool:=so.any fun i=>decide ((c:Int)∈QB l1 i)
def wv (l0:List YQ) (l1:List (List Int)) (so:List Int):Int × Int:=ws (cov l1 so) 0 l0 0 0
theorem qoM (m:Nat) (hm:m≤12) (l1:List (List Int)) (hl:l1.all (ris (m:Int) 0)=true):∀ (so:List Int),(∀ i∈so,0≤i∧i<(l1.length:Int)) → ∀ x:Nat,x<2 ^ 12 →
  ∃ y:Nat,y<2 ^ 12∧so.foldl (fun x i=>Go.bits .or .i64 x (rd (l1.map fun l=>((mk 0 l:Nat):Int)) i)) (x:Int)=(y:Int) ∧ ∀ c:Nat,y.testBit c=(x.testBit c||cov l1 so c)
 | [],_,x,hx=>⟨x,hx,rfl,fun c=>by simp [cov]⟩
 | i::so,h,x,hx=>by
  obtain ⟨h0,h1⟩:=h i (by simp)
  obtain ⟨q,rfl⟩:∃ q:Nat,i=(q:Int):=⟨i.toNat,by omega⟩
  have hq:q<l1.length:=by omega
  have hr:=List.all_eq_true.1 hl l1[q] (List.getElem_mem hq)
  have hlt:=qoL m hm l1[q] 0 0 (Int.le_refl _) hr (by decide)
  have e:rd (l1.map fun l=>((mk 0 l:Nat):Int)) (q:Int)=((mk 0 l1[q]:Nat):Int):=by rw [rdB _ q (by simpa using hq)];simp
  have b1:x<2 ^ 62:=Nat.lt_trans hx (by decide)
  have b2:mk 0 l1[q]<2 ^ 62:=Nat.lt_trans hlt (by decide)
  obtain ⟨y,y0,y1,y2⟩:=qoM m hm l1 hl so (fun j hj=>h j (by simp [hj])) (x ||| mk 0 l1[q]) (Nat.or_lt_two_pow hx hlt)
  refine ⟨y,y0,?_,fun c => ?_⟩
  ·
   rw [List.foldl_cons,e,orN _ _ b1 b2];exact y1
  ·
   rw [y2 c,Nat.testBit_or,qkX l1[q] 0 c (fun z hz=>(WY hr z hz).1)]
   simp only [cov,List.any_cons,qnE l1 q hq,Nat.zero_testBit,Bool.false_or,Bool.or_assoc]
theorem qte (l0:List YQ) (h12:l0.length≤12) (l1:List (List Int)) (hl:l1.all (ris (l0.length:Int) 0)=true) (so:List Int) (hs:ris (l1.length:Int) 0 so=true) :
  vP l0 (l1.map fun l=>((mk 0 l:Nat):Int)) so=wv l0 l1 so:=by
 obtain ⟨y,y0,y1,y2⟩:=qoM l0.length h12 l1 hl so (WY hs) 0 (by decide)
 have e:oxP (l1.map fun l=>((mk 0 l:Nat):Int)) so=(y:Int):=y1
 unfold vP wv QP.s
 rw [e,qaR y (Nat.lt_trans y0 (by decide)) l0 0 0 0 (by omega)]
 congr 1
 funext c
 rw [y2 c,Nat.zero_testBit,Bool.false_or]
def memB (m:Nat):Nat→Nat→List Int
 | _,0=>[]
 | lo,d+1=>if m.testBit lo=true then (lo:Int)::memB m (lo+1) d else memB m (lo+1) d
theorem qfW (m n:Nat):∀ (d lo:Nat),lo+d=n→ris (n:Int) (lo:Int) (memB m lo d)=true
 | 0,_,_=>rfl
 | d+1,lo,h=>by
  rw [memB]
  have ih:=qfW m n d (lo+1) (by omega)
  by_cases c:m.testBit lo=true
  ·
   rw [if_pos c,JL];exact ⟨Int.le_refl _,by omega,by push_cast at ih;exact ih⟩
  ·
   rw [if_neg c];exact qhC (by push_cast;omega) ih
theorem qfV (m:Nat):∀ (d lo:Nat),(memB m lo d).length≤d
 | 0,_=>Nat.le_refl _
 | d+1,lo=>by
  rw [memB]
  have:=qfV m d (lo+1)
  split
  ·
   rw [List.length_cons];omega
  ·
   omega
theorem qg6 (m n:Nat) (hm:m<2 ^ 62) (hn:n≤62):Ev (fun k=>QN.f k (m:Int) (n:Int)) (memB m 0 n):=by
 have loop:∀ (d i:Nat) (acc:List Int),i+d=n→acc.length≤i→Ev (fun k=>QN.l0 k (m:Int) (n:Int) acc (i:Int)) (acc++memB m i d):=by
  intro d
  induction d with
  | zero =>
   intro i acc hi ha
   refine Ev.step (f:=fun _=>some acc) (fun k => ?_) ?_
   ·
    simp only [QN.l0];rw [if_neg (by omega)]
   ·
    rw [memB,List.append_nil];exact Ev.now _
  | succ d ih =>
   intro i acc hi ha
   have hlt:i<n:=by omega
   have hw:=wr1 i n hlt (by omega)
   have hb:Ji.f (m:Int) (i:Int)=some (m.testBit i):=by
    unfold Ji.f;rw [if_pos (Int.natCast_nonneg i),bitN m i hm (by clear hw;omega)]
   rw [memB]
   cases c:m.testBit i with
   | true =>
    rw [if_pos rfl];have:=ih (i+1) (acc++[(i:Int)]) (by clear hw;omega) (by simp;omega);rw [List.append_assoc] at this;refine Ev.step (fun k => ?_) this;simp only [QN.l0,hw]
    rw [if_pos (Int.ofNat_lt.2 hlt),hb,Option.bind_some,c,if_pos rfl,if_pos (by clear hw;omega)]
   | false =>
    rw [if_neg (by decide)];refine Ev.step (fun k => ?_) (ih (i+1) acc (by clear hw;omega) (by omega));simp only [QN.l0,hw];rw [if_pos (Int.ofNat_lt.2 hlt),hb,Option.bind_some,c,if_neg (by decide)]
 exact Ev.congr (fun k=>rfl) (loop n 0 [] (by omega) (by simp))
theorem qdq (l:List Int) (n:Nat) (hn:n≤9223372036854775807) (hl:l.length≤9223372036854775807):Ev (fun k=>Qt.f k l (n:Int)) (ris (n:Int) 0 l):=by
 have hn1:wrap64 ((n:Int)-1)=(n:Int)-1:=by unfold wrap64;omega
 have loop:∀ (d i:Nat) (p:Int),i+d+1=l.length→0≤p→rd l (i:Int)=p→Ev (fun k=>Qt.l0 k l (n:Int) ((i+1:Nat):Int)) (ris (n:Int) (p+1) (l.drop (i+1))):=by
  intro d
  induction d with
  | zero =>
   intro i p hi hp hr
   rw [List.drop_eq_nil_of_le (by omega)]
   refine Ev.step (f:=fun _=>some true) (fun k => ?_) (Ev.now _)
   simp only [Qt.l0]
   rw [if_neg (by omega)]
  | succ d ih =>
   intro i p hi hp hr
   have hlt:i+1<l.length:=by omega
   have hr2:=rdB l (i+1) hlt
   rw [List.drop_eq_getElem_cons hlt,ris]
   have f1:((i+1:Nat):Int)<(l.length:Int):=Int.ofNat_lt.2 hlt
   have f2:(0:Int)≤((i+1:Nat):Int):=Int.natCast_nonneg _
   have f3:((i+1:Nat):Int)>0:=by omega
   have f4:(i:Int)<(l.length:Int):=by omega
   have ihh:=ih (i+1)
   have hd:i+1+d+1=l.length:=by omega
   obtain ⟨x,hx⟩:∃ x,l[i+1]=x:=⟨_,rfl⟩
   rw [hx] at hr2 ⊢
   have w1:wrap64 (((i+1:Nat):Int)-1)=(i:Int):=by clear hn1;unfold wrap64;omega
   have w2:=wr1 (i+1) l.length hlt (by clear hn1 w1;omega)
   by_cases c0:wi x 0 ((n:Int)-1)=true
   ·
    obtain ⟨c1,c2⟩:=Og.1 c0
    by_cases c3:x≤p
    ·
     rw [decide_eq_false (by clear w1 w2 hn1;omega),Bool.false_and];refine Ev.step (f:=fun _=>some false) (fun k => ?_) (Ev.now _);simp only [Qt.l0,XD,Option.bind_some,hr2,hn1,w1,hr];rw [if_pos f1,if_pos f2,if_pos c0,if_pos f3,if_pos (Int.natCast_nonneg i),if_pos f4,if_pos c3]
    ·
     rw [decide_eq_true (by clear w1 w2 hn1;omega),Bool.true_and];refine Ev.step (fun k => ?_) (ihh x hd c1 hr2);simp only [Qt.l0,XD,Option.bind_some,hr2,hn1,w1,hr,w2];rw [if_pos f1,if_pos f2,if_pos c0,if_pos f3,if_pos (Int.natCast_nonneg i),if_pos f4,if_neg c3]
   ·
    have c1:¬(p+1≤x∧x<(n:Int)):=fun h=>c0 (Og.2 ⟨by clear w1 w2 hn1;omega,by clear w1 w2 hn1;omega⟩)
    rw [decide_eq_false c1,Bool.false_and];refine Ev.step (f:=fun _=>some false) (fun k => ?_) (Ev.now _);simp only [Qt.l0,XD,Option.bind_some,hr2,hn1];rw [if_pos f1,if_pos f2,if_neg c0]
 by_cases h0:l.length=0
 ·
  have:l=[]:=List.length_eq_zero_iff.1 h0
  subst this
  refine Ev.step (f:=fun _=>some true) (fun k => ?_) (Ev.now _)
  simp [Qt.f,Qt.l0]
 ·
  have hlt:0<l.length:=by omega
  have hr:=rdB l 0 hlt
  have e:l=l[0]::l.drop 1:=by rw [← List.drop_eq_getElem_cons hlt,List.drop_zero]
  obtain ⟨x,hx⟩:∃ x,l[0]=x:=⟨_,rfl⟩
  rw [hx] at hr e
  rw [e,ris,← e]
  have f1:(0:Int)<(l.length:Int):=by omega
  have w0:wrap64 (0+1)=((0+1:Nat):Int):=by unfold wrap64;omega
  rw [show ((0:Nat):Int)=0 from rfl] at hr
  by_cases c0:wi x 0 ((n:Int)-1)=true
  ·
   obtain ⟨c1,c2⟩:=Og.1 c0
   rw [decide_eq_true (by clear w0 hn1;omega),Bool.true_and]
   refine Ev.step (fun k => ?_) (loop (l.length-1) 0 x (by clear w0 hn1;omega) c1 (by rw [show ((0:Nat):Int)=0 from rfl];exact hr))
   simp only [Qt.f,Qt.l0,XD,Option.bind_some,hr,hn1,w0]
   rw [if_pos f1,if_pos (Int.le_refl _),if_pos c0,if_neg (by decide)]
  ·
   have c1:¬((0:Int)≤x∧x<(n:Int)):=fun h=>c0 (Og.2 ⟨h.1,by clear w0 hn1;omega⟩)
   rw [decide_eq_false c1,Bool.false_and]
   refine Ev.step (f:=fun _=>some false) (fun k => ?_) (Ev.now _)
   simp only [Qt.f,Qt.l0,XD,Option.bind_some,hr,hn1]
   rw [if_pos f1,if_pos (Int.le_refl _),if_neg c0]
theorem qi2 (a b:List Int) (ha:a.length≤9223372036854775807) (hb:b.length≤9223372036854775807):Ev (fun k=>Qy.f k a b) (bef a b):=by
 have loop:∀ (d i:Nat),i+d=a.length→i≤b.length→Ev (fun k=>Qy.l0 k a b (i:Int)) (bef (a.drop i) (b.drop i)):=by
  intro d
  induction d with
  | zero =>
   intro i hi hib
   rw [List.drop_eq_nil_of_le (by omega)]
   refine Ev.step (f:=fun k=>Qy.j1 k a b (i:Int) false) (fun k => ?_) ?_
   ·
    simp only [Qy.l0];rw [if_neg (by omega)]
   ·
    refine Ev.step (f:=fun _=>some (decide ((a.length:Int)<(b.length:Int)))) (fun k => ?_) ?_
    ·
     simp [Qy.j1]
    ·
     have:bef [] (b.drop i)=decide ((a.length:Int)<(b.length:Int)):=by
      by_cases c:i<b.length
      ·
       rw [List.drop_eq_getElem_cons c,decide_eq_true (by omega)];rfl
      ·
       rw [List.drop_eq_nil_of_le (by omega),decide_eq_false (by omega)];rfl
     rw [this]
     exact Ev.now _
  | succ d ih =>
   intro i hi hib
   have hlt:i<a.length:=by omega
   rw [List.drop_eq_getElem_cons hlt]
   have hra:=rdB a i hlt
   by_cases c:i<b.length
   ·
    have hrb:=rdB b i c
    have hi1:i+1+d=a.length:=by omega
    rw [List.drop_eq_getElem_cons c,bef];have hw:=wr1 i a.length hlt (by omega);refine Ev.step (f:=fun k=>Qy.j1 k a b (i:Int) true) (fun k => ?_) ?_
    ·
     simp only [Qy.l0];rw [if_pos (Int.ofNat_lt.2 hlt),decide_eq_true (Int.ofNat_lt.2 c)]
    ·
     by_cases e:a[i]=b[i]
     ·
      rw [if_pos e];refine Ev.step (fun k => ?_) (ih (i+1) hi1 c);simp only [Qy.j1,hra,hrb,hw];rw [if_pos trivial,if_pos (Int.natCast_nonneg i),if_pos (Int.ofNat_lt.2 hlt),if_pos (Int.ofNat_lt.2 c),if_pos e]
     ·
      rw [if_neg e];refine Ev.step (f:=fun _=>some (decide (a[i]<b[i]))) (fun k => ?_) (Ev.now _);simp only [Qy.j1,hra,hrb];rw [if_pos trivial,if_pos (Int.natCast_nonneg i),if_pos (Int.ofNat_lt.2 hlt),if_pos (Int.ofNat_lt.2 c),if_neg e]
   ·
    rw [List.drop_eq_nil_of_le (by omega:b.length≤i)];refine Ev.step (f:=fun k=>Qy.j1 k a b (i:Int) false) (fun k => ?_) ?_
    ·
     simp only [Qy.l0];rw [if_pos (Int.ofNat_lt.2 hlt),decide_eq_false (by omega)]
    ·
     refine Ev.step (f:=fun _=>some false) (fun k => ?_) (Ev.now _);simp only [Qy.j1];rw [if_neg (by decide),decide_eq_false (by omega)]
 exact Ev.congr (fun k=>rfl) (loop a.length 0 (by omega) (by omega))
end
section
attribute [local go_sem] Yn Yp YA YC Yb Yc Yo Yq
end
section
attribute [local go_sem] Yn Yp YA YC Yb Yc Yo Yq
end
section
attribute [local go_sem] Yn Yp YA YC Yb Yc Yo Yq
end
section
attribute [local go_sem] Yn Yp YA YC Yb Yc Yo Yq
end
section
attribute [local go_sem] Yn Yp YA YC Yb Yc Yo Yq
end
section
attribute [local go_sem] Yn Yp YA YC Yb Yc Yo Yq
end
section
attribute [local go_sem] Yn Yp YA YC Yb Yc Yo Yq
end
section
attribute [local go_sem] Yn Yp YA YC Yb Yc Yo Yq
end
section
theorem Inv.congr {V V':List Int→Int × Int} {P:List Int→Prop} {st:BSt} (h:Inv V P st) (e:∀ q,P q→V q=V' q):Inv V' P st:=by
 obtain ⟨h1,h2,h3⟩:=h
 refine ⟨h1,by rw [← e _ h1];exact h2,fun q hq => ?_⟩
 have:=h3 q hq
 unfold bet at this ⊢
 rw [← e _ h1,← e _ hq]
 exact this
def bxOk (l0:List YQ) (l1:List (List Int)):Bool:=decide ((l0.length:Int)≤12)&&decide ((l1.length:Int)≤8)&&(l0.all fun c=>wi c.f0 0 10000&&wi c.f1 0 10000)&&l1.all (ris (l0.length:Int) 0)
def Cho (l1:List (List Int)) (a2:Int) (q:List Int):Prop:=ris (l1.length:Int) 0 q=true∧(q.length:Int)≤a2
theorem qiX (l0:List YQ) (l1:List (List Int)) (a2:Int) (h:bxOk l0 l1=false):Qn.g l0 l1 a2=([],0,0,94):=by
 unfold Qn.g
 rw [qg8]
 cases hr:Qn.rows (l0.length:Int) l1 with
 | none=>rfl
 | some sets =>
  dsimp only
  cases hk:(decide ((l0.length:Int)≤12)&&decide ((l1.length:Int)≤8)&&l0.all fun c=>wi c.f0 0 10000&&wi c.f1 0 10000) with
  | false=>rw [if_neg (by decide)]
  | true =>
   unfold bxOk at h
   rw [hk,Bool.true_and] at h
   rw [Bool.and_eq_true,Bool.and_eq_true,decide_eq_true_eq] at hk
   rw [qev l0.length (by omega) l1,h,if_neg (by decide)] at hr
   cases hr
theorem qgC (l0:List YQ) (l1:List (List Int)) (a2:Int) (h:bxOk l0 l1=true) (ha:wi a2 0 8=true):∃ st:BSt,Qn.g l0 l1 a2=(st.ch,st.sp,st.lo,0)∧Inv (wv l0 l1) (Cho l1 a2) st:=by
 unfold bxOk at h
 rw [Bool.and_eq_true] at h
 have hk:=h.1
 rw [Bool.and_eq_true,Bool.and_eq_true,decide_eq_true_eq] at hk
 obtain ⟨a0,a1⟩:=Og.1 ha
 have h12:l0.length≤12:=by omega
 refine ⟨Qn.tries l0 (l1.map fun l=>((mk 0 l:Nat):Int)) (min a2.toNat l1.length+1) 0 ⟨[],0,0⟩,?_,?_⟩
 ·
  unfold Qn.g
  rw [qg8,qev l0.length h12 l1,h.2,if_pos rfl,h.1,ha]
  simp only [List.length_map,if_true]
 ·
  refine ((qhH l0 (l1.map fun l=>((mk 0 l:Nat):Int)) (min a2.toNat l1.length)).iff _ (fun q => ?_)).congr (fun q hq=>qte l0 h12 l1 h.2 q hq.1)
  rw [List.length_map]
  unfold Cho
  constructor
  ·
   rintro ⟨r,k⟩;exact ⟨r,by omega⟩
  ·
   rintro ⟨r,k⟩
   have:=qb0 (Int.natCast_nonneg _) r
   exact ⟨r,by omega⟩
end
section
def sg (g:YQ→Int) (p:Nat→Bool):Nat→List YQ→Int
 | _,[]=>0
 | i,c::cs=>(if p i=true then g c else 0)+sg g p (i+1) cs
theorem sg_b (g:YQ→Int) (p:Nat→Bool):∀ (cs:List YQ) (i:Nat),(∀ c∈cs,0≤g c∧g c≤10000)→0≤sg g p i cs∧sg g p i cs≤10000*(cs.length:Int)
 | [],_,_=>by simp [sg]
 | c::cs,i,h=>by
  have h1:=sg_b g p cs (i+1) (fun x hx=>h x (by simp [hx]))
  have h2:=h c (by simp)
  rw [sg,List.length_cons]
  push_cast
  split<;>omega
theorem w64t {z:Int} (h0:0≤z) (h1:z≤1000000):wrap64 z=z:=by unfold wrap64;omega
theorem qln (p:Nat→Bool):∀ (cs:List YQ) (i:Nat) (a b:Int),(∀ c∈cs,(0≤c.f0∧c.f0≤10000)∧(0≤c.f1∧c.f1≤10000))→0≤a→a+10000*(cs.length:Int)≤1000000→0≤b→b+10000*(cs.length:Int)≤1000000→ws p i cs a b=(a+sg YQ.f0 p i cs,b+sg YQ.f1 p i cs)
 | [],i,a,b,_,_,_,_,_=>by simp [ws,sg]
 | c::cs,i,a,b,h,a0,a1,b0,b1=>by
  obtain ⟨⟨p0,p1⟩,q0,q1⟩:=h c (by simp)
  have hcs:=fun x hx=>h x (List.mem_cons_of_mem c hx)
  rw [List.length_cons] at a1 b1
  push_cast at a1 b1
  have hl:(0:Int)≤(cs.length:Int):=Int.natCast_nonneg _
  rw [ws,sg,sg]
  by_cases e:p i=true
  ·
   have e1:wrap64 (a+c.f0)=a+c.f0:=w64t (by omega) (by omega)
   have e2:wrap64 (b+c.f1)=b+c.f1:=by clear e1;exact w64t (by omega) (by omega)
   rw [if_pos e,if_pos e,if_pos e,e1,e2,qln p cs (i+1) _ _ hcs (by clear e1 e2;omega) (by clear e1 e2;omega) (by clear e1 e2;omega) (by clear e1 e2;omega),Int.add_assoc,Int.add_assoc]
  ·
   rw [if_neg e,if_neg e,if_neg e,qln p cs (i+1) _ _ hcs a0 (by omega) b0 (by omega),Int.zero_add,Int.zero_add]
theorem qlc (g:YQ→Int) (p:Nat→Bool) (c:Nat):∀ (cs:List YQ) (i:Nat),c<i→sg g (fun j=>p j||decide (j=c)) i cs=sg g p i cs
 | [],_,_=>rfl
 | x::cs,i,h=>by
  rw [sg,sg,qlc g p c cs (i+1) (by omega)]
  have:decide (i=c)=false:=decide_eq_false (by omega)
  rw [this,Bool.or_false]
theorem qhD (g:YQ→Int) (p:Nat→Bool) (c:Nat) (hc:p c=false):∀ (cs:List YQ) (i:Nat),i≤c→(h:c-i<cs.length)→sg g (fun j=>p j||decide (j=c)) i cs=sg g p i cs+g cs[c-i]
 | x::cs,i,hi,h=>by
  by_cases e:i=c
  ·
   subst e
   rw [sg,sg,qlc g p i cs (i+1) (by omega),hc]
   simp
   omega
  ·
   have h2:c-(i+1)<cs.length:=by rw [List.length_cons] at h;omega
   have ih:=qhD g p c hc cs (i+1) (by omega) h2
   rw [sg,sg,ih]
   have e1:decide (i=c)=false:=decide_eq_false e
   have e2:(x::cs)[c-i]=cs[c-(i+1)]:=by
    have:c-i=(c-(i+1))+1:=by omega
    simp only [this,List.getElem_cons_succ]
   rw [e1,Bool.or_false,e2]
   omega
theorem qew (g:YQ→Int):∀ (cs:List YQ) (i:Nat),sg g (fun _=>false) i cs=0
 | [],_=>rfl
 | c::cs,i=>by rw [sg,qew g cs (i+1),if_neg (by decide)];rfl
def mt (n:Nat) (p:Nat→Bool):List Bool:=(List.range n).map p
theorem qpO (n:Nat) (p:Nat→Bool):(mt n p).length=n:=by simp [mt]
theorem qtd (n:Nat) (p:Nat→Bool) (c:Nat) (h:c<n):rdOf false (mt n p) (c:Int)=p c:=by simp [rdOf,mt,List.getD_eq_getElem?_getD,h]
theorem qpP (n:Nat) (p:Nat→Bool) (c:Nat) (h:c<n):(mt n p).set c true=mt n (fun j=>p j||decide (j=c)):=by
 apply List.ext_getElem
 ·
  simp [mt]
 ·
  intro j h1 h2
  simp only [mt,List.getElem_set,List.getElem_map,List.getElem_range]
  by_cases e:c=j
  ·
   subst e;simp
  ·
   have:¬(j=c):=fun x=>e x.symm
   rw [if_neg e,decide_eq_false this,Bool.or_false]
theorem qno (n:Nat):mt n (fun _=>false)=List.replicate n false:=by
 apply List.ext_getElem
 ·
  simp [mt]
 ·
  intro j h1 h2
  simp [mt]
section
variable (l0:List YQ) (l1:List (List Int)) (h12:l0.length≤12) (hv:∀ c∈l0,(0≤c.f0∧c.f0≤10000)∧(0≤c.f1∧c.f1≤10000)) (hl:l1.all (ris (l0.length:Int) 0)=true) (h8:l1.length≤8) (so:List Int) (hs:∀ i∈so,0≤i∧i<(l1.length:Int)) (hso:so.length≤8)
include h12 hv hl h8 hs hso
theorem qey (x:Nat) (hx:x<so.length) (q:Nat) (hq:so[x]=(q:Int)) (hq1:q<l1.length) (R:Int × Int):∀ (d i:Nat) (p:Nat→Bool),i+d=l1[q].length →
  Ev (fun k=>Qp.l0 k l0 l1 so (mt l0.length (fun j=>p j||decide ((j:Int)∈l1[q].drop i))) (sg YQ.f0 (fun j=>p j||decide ((j:Int)∈l1[q].drop i)) 0 l0) (sg YQ.f1 (fun j=>p j||decide ((j:Int)∈l1[q].drop i)) 0 l0) ((x+1:Nat):Int)) R →
  Ev (fun k=>Qp.l1 k l0 l1 so (mt l0.length p) (sg YQ.f0 p 0 l0) (sg YQ.f1 p 0 l0) (x:Int) (i:Int)) R:=by
 have hris:=List.all_eq_true.1 hl l1[q] (List.getElem_mem hq1)
 have hrl:=qb0 (Int.natCast_nonneg _) hris
 have hr:=rdB so x hx
 rw [hq] at hr
 have hr5:=qnE l1 q hq1
 have g0:(0:Int)≤(x:Int):=Int.natCast_nonneg x
 have g1:(x:Int)<(so.length:Int):=Int.ofNat_lt.2 hx
 have g2:(0:Int)≤(q:Int):=Int.natCast_nonneg q
 have g3:(q:Int)<(l1.length:Int):=Int.ofNat_lt.2 hq1
 obtain ⟨box,hbox⟩:∃ box,l1[q]=box:=⟨_,rfl⟩
 rw [hbox] at hris hrl hr5
 simp only [hbox]
 intro d
 induction d with
 | zero =>
  intro i p hi hE
  have e:(fun j:Nat=>p j||decide ((j:Int)∈box.drop i))=p:=by
   funext j
   rw [List.drop_eq_nil_of_le (by omega)]
   simp
  rw [e] at hE
  have hn:¬((i:Int)<(box.length:Int)):=by omega
  have hw:=wr1 x so.length hx (by omega)
  refine Ev.step (fun k => ?_) hE
  simp only [Qp.l1,hr,hr5,hw]
  rw [if_pos g0,if_pos g1,if_pos g2,if_pos g3,if_neg hn]
 | succ d ih =>
  intro i p hi hE
  have hlt:i<box.length:=by omega
  have hi1:i+1+d=box.length:=by omega
  obtain ⟨b0,b1⟩:=WY hris box[i] (List.getElem_mem hlt)
  have hrb:=rdB box i hlt
  obtain ⟨c,hc⟩:∃ c:Nat,box[i]=(c:Int):=⟨box[i].toNat,by omega⟩
  rw [hc] at hrb b1
  have hcl:c<l0.length:=by omega
  have f1:(i:Int)<(box.length:Int):=Int.ofNat_lt.2 hlt
  have f2:(0:Int)≤(i:Int):=Int.natCast_nonneg i
  have f3:(0:Int)≤(c:Int):=Int.natCast_nonneg c
  have f4:(c:Int)<(((mt l0.length p).length:Nat):Int):=by rw [qpO];exact b1
  have hwl:box.length≤12:=by omega
  rw [List.drop_eq_getElem_cons hlt,hc] at hE
  have hm:=qtd l0.length p c hcl
  have hw:=wr1 i box.length hlt (by omega)
  cases hp:p c with
  | true =>
   have e:(fun j:Nat=>p j||decide ((j:Int)∈(c:Int)::box.drop (i+1)))=(fun j:Nat=>p j||decide ((j:Int)∈box.drop (i+1))):=by
    funext j
    by_cases e:j=c
    ·
     subst e;rw [hp];simp
    ·
     have:¬((j:Int)=(c:Int)):=by clear hw;omega
     simp [this]
   rw [e] at hE
   refine Ev.step (fun k => ?_) (ih (i+1) p hi1 hE)
   simp only [Qp.l1,hr,hr5,hrb,hw]
   rw [if_pos g0,if_pos g1,if_pos g2,if_pos g3,if_pos f1,if_pos f2,if_pos f3,if_pos f4,hm,hp,if_pos rfl]
  | false =>
   have e:(fun j:Nat=>p j||decide ((j:Int)∈(c:Int)::box.drop (i+1)))=(fun j:Nat=>(fun j=>p j||decide (j=c)) j||decide ((j:Int)∈box.drop (i+1))):=by
    funext j
    by_cases e:j=c
    ·
     subst e;simp
    ·
     have:¬((j:Int)=(c:Int)):=by clear hw;omega
     simp [this,e]
   rw [e] at hE
   have s0:=qhD YQ.f0 p c hp l0 0 (by clear hw;omega) (by clear hw;omega)
   have s1:=qhD YQ.f1 p c hp l0 0 (by clear hw;omega) (by clear hw;omega)
   have hrc:=qp4 l0 c hcl
   have B0:=sg_b YQ.f0 (fun j=>p j||decide (j=c)) l0 0 (fun x hx=>(hv x hx).1)
   have B1:=sg_b YQ.f1 (fun j=>p j||decide (j=c)) l0 0 (fun x hx=>(hv x hx).2)
   have e0:wrap64 (sg YQ.f0 p 0 l0+(ZM l0 (c:Int)).f0)=sg YQ.f0 (fun j=>p j||decide (j=c)) 0 l0:=by
    rw [hrc]
    have:sg YQ.f0 p 0 l0+l0[c].f0=sg YQ.f0 (fun j=>p j||decide (j=c)) 0 l0:=by rw [s0];simp
    rw [this]
    exact w64t B0.1 (by clear hw s0 s1 this;omega)
   have e1:wrap64 (sg YQ.f1 p 0 l0+(ZM l0 (c:Int)).f1)=sg YQ.f1 (fun j=>p j||decide (j=c)) 0 l0:=by
    rw [hrc]
    have:sg YQ.f1 p 0 l0+l0[c].f1=sg YQ.f1 (fun j=>p j||decide (j=c)) 0 l0:=by rw [s1];simp
    rw [this]
    exact w64t B1.1 (by clear hw s0 s1 this e0;omega)
   refine Ev.step (fun k => ?_) (ih (i+1) (fun j=>p j||decide (j=c)) hi1 hE)
   simp only [Qp.l1,hr,hr5,hrb,hw]
   rw [if_pos g0,if_pos g1,if_pos g2,if_pos g3,if_pos f1,if_pos f2,if_pos f3,if_pos f4,hm,hp,if_neg (by decide),if_pos b1,e0,e1,Int.toNat_natCast,qpP l0.length p c hcl]
theorem qdt:Ev (fun k=>Qp.f k l0 l1 so) (wv l0 l1 so):=by
 have fin:wv l0 l1 so=(sg YQ.f0 (cov l1 so) 0 l0,sg YQ.f1 (cov l1 so) 0 l0):=by
  rw [wv,qln (cov l1 so) l0 0 0 0 hv (by decide) (by omega) (by decide) (by omega),Int.zero_add,Int.zero_add]
 have outer:∀ (d x:Nat) (p:Nat→Bool),x+d=so.length→(fun j=>p j||cov l1 (so.drop x) j)=cov l1 so→Ev (fun k=>Qp.l0 k l0 l1 so (mt l0.length p) (sg YQ.f0 p 0 l0) (sg YQ.f1 p 0 l0) (x:Int)) (wv l0 l1 so):=by
  intro d
  induction d with
  | zero =>
   intro x p hx hp
   have:p=cov l1 so:=by rw [← hp];funext j;rw [List.drop_eq_nil_of_le (by omega)];simp [cov]
   subst this
   refine Ev.step (f:=fun _=>some (sg YQ.f0 (cov l1 so) 0 l0,sg YQ.f1 (cov l1 so) 0 l0)) (fun k => ?_) (by rw [fin];exact Ev.now _)
   simp only [Qp.l0]
   rw [if_neg (by omega)]
  | succ d ih =>
   intro x p hx hp
   have hlt:x<so.length:=by omega
   obtain ⟨b0,b1⟩:=hs so[x] (List.getElem_mem hlt)
   obtain ⟨q,hq⟩:∃ q:Nat,so[x]=(q:Int):=⟨so[x].toNat,by omega⟩
   have hq1:q<l1.length:=by omega
   refine Ev.step (f:=fun k=>Qp.l1 k l0 l1 so (mt l0.length p) (sg YQ.f0 p 0 l0) (sg YQ.f1 p 0 l0) (x:Int) ((0:Nat):Int)) (fun k => ?_) (qey l0 l1 h12 hv hl h8 so hs hso x hlt q hq hq1 _ l1[q].length 0 p (by omega) (ih (x+1) _ (by omega) ?_))
   ·
    simp only [Qp.l0];rw [if_pos (Int.ofNat_lt.2 hlt)]
    rfl
   ·
    rw [← hp]
    funext j
    rw [List.drop_eq_getElem_cons hlt,hq];simp only [cov,List.any_cons,qnE l1 q hq1,List.drop_zero,Bool.or_assoc]
 have h0:=outer so.length 0 (fun _=>false) (by omega) (by funext j;simp)
 rw [qno,qew,qew] at h0
 refine Ev.congr (fun k => ?_) h0
 simp only [Qp.f,Int.toNat_natCast]
 rw [if_pos (Int.natCast_nonneg _),if_pos (by omega)]
 rfl
end
theorem StockSpared (l0:List YQ) (l1:List (List Int)) (a0 a1:Int) (hl:l0.length*16≤140737488351232) (hp:∀ x∈l0,qo7 x) (hl1:l1.length*24≤140737488351232) (hp1:l1.length*24≤140737488351232 ∧ ∀ x∈l1,x.length*8≤140737488351232 ∧ ∀ y∈x,Wf y) (h0:Wf a0) (h1:Wf a1):∃ k,Qa.f k l0 l1 a0 a1=some true:=by
 obtain ⟨ms,em,m0,m1⟩:=modB a0 9 (by decide) (by decide)
 have ha:wi ms 0 8=true:=Og.2 ⟨m0,by omega⟩
 have hg:Qn.f l0 l1 ms=some (Qn.g l0 l1 ms):=by rw [Qn.f,if_pos (by omega)]
 refine Ev.rounds ?_
 cases hok:bxOk l0 l1 with
 | false =>
  refine Ev.congr (f:=fun k=>Qa.j0 k l0 l1 ms [] 0 0 94 true a0 a1) (fun k => ?_) (Ev.step (f:=fun _=>some true) (fun k => ?_) (Ev.now _))
  ·
   rw [Qa.f,em,Option.bind_some,hg,Option.bind_some,qiX l0 l1 ms hok]
   dsimp only
   rw [if_neg (by decide)]
  ·
   simp [Qa.j0,Y7.f]
 | true =>
  obtain ⟨st,e,hI⟩:=qgC l0 l1 ms hok ha
  unfold bxOk at hok
  rw [Bool.and_eq_true,Bool.and_eq_true,Bool.and_eq_true,decide_eq_true_eq,decide_eq_true_eq] at hok
  obtain ⟨⟨⟨k12,k8⟩,kc⟩,kb⟩:=hok
  have h12:l0.length≤12:=by omega
  have h8:l1.length≤8:=by omega
  have hv:∀ c∈l0,(0≤c.f0∧c.f0≤10000)∧(0≤c.f1∧c.f1≤10000):=fun c hc=>by
   have:=List.all_eq_true.1 kc c hc
   rw [Bool.and_eq_true,Og,Og] at this
   exact this
  obtain ⟨cr,cl⟩:=hI.mem
  have clen:=qb0 (Int.natCast_nonneg _) cr
  have qzU:st.ch.length≤8:=by omega
  have hb1:∀ x∈l1,x.length≤9223372036854775807:=fun x hx=>by have:=(hp1.2 x hx).1;omega
  have hR:=qdq st.ch l1.length (by omega) (by omega)
  rw [cr] at hR
  have hS1:=qdt l0 l1 h12 hv kb h8 st.ch (WY cr) qzU
  rw [hI.val] at hS1
  have h2p:2 ^ l1.length≤256:=Nat.le_trans (Nat.pow_le_pow_right (by decide) h8) (by decide)
  have h2q:0<2 ^ l1.length:=Nat.two_pow_pos _
  have hsh:=shlN l1.length (by omega)
  obtain ⟨t,et,t0,t1⟩:=modB a1 ((2 ^ l1.length:Nat):Int) (by omega) (by omega)
  obtain ⟨m,rfl⟩:∃ m:Nat,t=(m:Int):=⟨t.toNat,by omega⟩
  have qz3:m<2 ^ 62:=Nat.lt_of_lt_of_le (by omega:m<256) (by decide)
  have hM:=qg6 m l1.length qz3 (by omega)
  have hMr:=qfW m l1.length l1.length 0 (by omega)
  have hMl:=qfV m l1.length 0
  obtain ⟨mb,hmb⟩:∃ mb,memB m 0 l1.length=mb:=⟨_,rfl⟩
  rw [hmb] at hM hMr hMl
  have hmn:0≤mn (mb.length:Int) ms∧mn (mb.length:Int) ms≤(mb.length:Int)∧mn (mb.length:Int) ms≤ms:=by unfold mn;split<;>omega
  obtain ⟨ot,hot⟩:∃ ot,mb.take (mn (mb.length:Int) ms).toNat=ot:=⟨_,rfl⟩
  have hor:ris (l1.length:Int) 0 ot=true:=by rw [← hot];exact qga _ hMr
  have hol:(ot.length:Int)≤ms:=by rw [← hot,List.length_take];omega
  have qAp:ot.length≤8:=by omega
  have hS2:=qdt l0 l1 h12 hv kb h8 ot (WY hor) qAp
  have hnb:=hI.best ot ⟨hor,hol⟩
  have qkK:¬(st.sp<(wv l0 l1 ot).1∨((wv l0 l1 ot).1=st.sp∧((wv l0 l1 ot).2<st.lo∨((wv l0 l1 ot).2=st.lo∧(ot.length<st.ch.length∨(ot.length=st.ch.length∧bef ot st.ch=true)))))):=by
   unfold bet at hnb
   rw [hI.val] at hnb
   exact hnb
  clear hnb
  obtain ⟨v,hvv⟩:∃ v,wv l0 l1 ot=v:=⟨_,rfl⟩
  rw [hvv] at hS2 qkK
  have n1:¬(v.1>st.sp):=fun x=>qkK (.inl x)
  have last:Ev (fun k=>Qa.j3 k st.ch st.sp st.lo ot v.1 v.2 false) true:=by
   by_cases c1:v.1=st.sp
   ·
    by_cases c2:v.2=st.lo
    ·
     by_cases c3:(ot.length:Int)>(st.ch.length:Int)
     ·
      refine Ev.step (f:=fun _=>some true) (fun k => ?_) (Ev.now _);simp only [Qa.j3,Y7.f,Option.bind_some];rw [if_neg (by decide),if_pos c1,if_pos c2,if_pos c3]
     ·
      have c4:(ot.length:Int)=(st.ch.length:Int):=by
       have:¬(ot.length<st.ch.length):=fun x=>qkK (.inr ⟨c1,.inr ⟨c2,.inl x⟩⟩)
       omega
      have c5:bef ot st.ch=false:=by
       cases hb:bef ot st.ch with
       | false=>rfl
       | true=>exact absurd (.inr ⟨c1,.inr ⟨c2,.inr ⟨by omega,hb⟩⟩⟩) qkK
      have hB:=qi2 ot st.ch (by omega) (by omega);rw [c5] at hB;refine Ev.step (f:=fun k=>(Qy.f k ot st.ch).bind fun qbb=>(if qbb=true then (some false) else (some true))) (fun k => ?_) (Ev.bind hB (Ev.congr (f:=fun _=>some true) (fun k=>by rw [if_neg (by decide)]) (Ev.now _)));simp only [Qa.j3,Y7.f,Option.bind_some];rw [if_neg (by decide),if_pos c1,if_pos c2,if_neg c3,if_pos c4]
    ·
     refine Ev.step (f:=fun _=>some true) (fun k => ?_) (Ev.now _);simp only [Qa.j3,Y7.f,Option.bind_some];rw [if_neg (by decide),if_pos c1,if_neg c2]
   ·
    refine Ev.step (f:=fun _=>some true) (fun k => ?_) (Ev.now _);simp only [Qa.j3,Y7.f,Option.bind_some];rw [if_neg (by decide),if_neg c1]
  have boxes:∀ (d i:Nat),i+d=l1.length→Ev (fun k=>Qa.l0 k l0 l1 ms st.ch st.sp st.lo (i:Int) a0 a1) true:=by
   intro d
   induction d with
   | zero =>
    intro i hi;refine Ev.step (f:=fun k=>(Qp.f k l0 l1 st.ch).bind fun qck=>((QN.f k (m:Int) (l1.length:Int)).bind fun ZP=>(if 0≤(mn (ZP.length:Int) ms) then (if (mn (ZP.length:Int) ms)≤(ZP.length:Int) then ((some (ZP.take ((mn (ZP.length:Int) ms):Int).toNat:List Int)).bind fun YO=>((Qp.f k l0 l1 YO).bind fun QM=>(if qck.1=st.sp then (if qck.2=st.lo then (if QM.1>st.sp then (Qa.j3 k st.ch st.sp st.lo YO QM.1 QM.2 true) else (if QM.1=st.sp then (Qa.j3 k st.ch st.sp st.lo YO QM.1 QM.2 (decide (QM.2<st.lo))) else (Qa.j3 k st.ch st.sp st.lo YO QM.1 QM.2 false))) else (Qa.j3 k st.ch st.sp st.lo YO QM.1 QM.2 true)) else (Qa.j3 k st.ch st.sp st.lo YO QM.1 QM.2 true)))) else (none)) else (none)))) (fun k => ?_) (Ev.bind hS1 (Ev.bind hM ?_))
    ·
     simp only [Qa.l0,hsh];rw [if_neg (by omega),et];simp only [Option.bind_some]
    ·
     refine Ev.congr (f:=fun k=>(Qp.f k l0 l1 ot).bind fun QM=>(if QM.1>st.sp then (Qa.j3 k st.ch st.sp st.lo ot QM.1 QM.2 true) else (if QM.1=st.sp then (Qa.j3 k st.ch st.sp st.lo ot QM.1 QM.2 (decide (QM.2<st.lo))) else (Qa.j3 k st.ch st.sp st.lo ot QM.1 QM.2 false)))) (fun k => ?_) (Ev.bind hS2 ?_)
     ·
      rw [if_pos hmn.1,if_pos hmn.2.1,Option.bind_some,hot];simp only [if_true]
     ·
      refine Ev.congr (fun k => ?_) last;rw [if_neg n1]
      by_cases c:v.1=st.sp
      ·
       rw [if_pos c];have:decide (v.2<st.lo)=false:=decide_eq_false (fun x=>qkK (.inr ⟨c,.inl x⟩));rw [this]
      ·
       rw [if_neg c]
   | succ d ih =>
    intro i hi
    have hlt:i<l1.length:=by omega
    have hr5:=qnE l1 i hlt
    have hi1:i+1+d=l1.length:=by omega
    have hRi:=qdq l1[i] l0.length (by omega) (hb1 _ (List.getElem_mem hlt));rw [List.all_eq_true.1 kb l1[i] (List.getElem_mem hlt)] at hRi;have hw:=wr1 i l1.length hlt (by omega);refine Ev.step (f:=fun k=>(Qt.f k l1[i] (l0.length:Int)).bind fun qdv=>(if qdv=true then (Qa.l0 k l0 l1 ms st.ch st.sp st.lo ((i+1:Nat):Int) a0 a1) else (some false))) (fun k => ?_) (Ev.bind hRi (Ev.congr (fun k=>by rw [if_pos rfl]) (ih (i+1) hi1)));simp only [Qa.l0,hr5,hw];rw [if_pos (Int.ofNat_lt.2 hlt),if_pos (Int.natCast_nonneg i)]
  have c12:¬((l0.length:Int)>12):=by omega
  have c8:decide ((l1.length:Int)>8)=false:=decide_eq_false (by omega)
  have cm:decide ((st.ch.length:Int)>ms)=false:=decide_eq_false (by omega)
  refine Ev.congr (f:=fun k=>Qa.j0 k l0 l1 ms st.ch st.sp st.lo 0 false a0 a1) (fun k => ?_) (Ev.step (f:=fun k=>(Qt.f k st.ch (l1.length:Int)).bind fun qba=>(if qba=true then (Qa.j1 k l0 l1 ms st.ch st.sp st.lo false a0 a1) else (Qa.j1 k l0 l1 ms st.ch st.sp st.lo true a0 a1))) (fun k => ?_) (Ev.bind hR (Ev.congr (fun k=>by rw [if_pos rfl]) (Ev.step (f:=fun k=>Qa.l0 k l0 l1 ms st.ch st.sp st.lo ((0:Nat):Int) a0 a1) (fun k => ?_) (boxes l1.length 0 (by omega))))))
  ·
   rw [Qa.f,em,Option.bind_some,hg,Option.bind_some,e]
   dsimp only
   rw [if_pos rfl,if_neg c12,c8]
  ·
   simp only [Qa.j0,cm]
   rw [if_neg (by decide)]
  ·
   simp [Qa.j1]
end
section
theorem qbc {H:Type} {P:Program} {e:TypeId} {d:DataW H} {n:Nat}:∀ {L:List (DataW H)},d∈L→n∈d.weights P e→n∈DataW.weightsAll P e L
 | [],h,_=>by simp at h
 | y::L,h,hn=>by
  rw [DataW.weightsAll,List.mem_append]
  rcases List.mem_cons.1 h with rfl|h
  ·
   exact .inl hn
  ·
   exact .inr (qbc h hn)
def XE {α:Type} (d:Kd α) (t:TypeId) (p:α→Prop):Prop:=∀ (H:Type) (enc:TypeId × Value→H) (w:World) (fuel:Nat) (cs:List Value) (x:DataW H × List MemPlace),
 DataW.trod enc Try.prog w 0 (fun _=>true) true fuel t cs=some x→(∀ n∈x.1.weights Try.prog t,n≤reachBytes) → ∃ a,d.K w a cs∧p a
theorem Wl.z {α:Type} {d:Kd α} {t:TypeId} {p:α→Prop} (h:Wl d t p):XE d t p:=fun H enc w fuel cs x hf _=>h H enc w fuel cs x hf
theorem qaz {α:Type} {d:Kd α} {e e' t:TypeId} {p:α→Prop} (B:Nat) (h:XE d e p) (ht:Try.prog.underlying t=some (.slice e)) (hc:Try.prog.cellsOf e=d.sz) (hB:Try.prog.bytesOf e=B):XE (Kd.slice e' d) t (fun xs=>xs.length*B≤140737488351232 ∧ ∀ x∈xs,p x):=fun H enc w fuel cs x hf hw=>by
 rcases Deep.open_slice ht hf with ⟨rfl,_⟩|⟨a,len,cap,m,n,D,Pl,rfl,_,hl,hm,hmm,hxx,hx⟩
 ·
  exact ⟨[],⟨none,0,rfl,Nat.le_refl _,Kd.C_nil d w⟩,by simp,fun x hx=>by simp at hx⟩
 ·
  subst hxx
  have hws:=hw
  simp only [DataW.weights,ht] at hws
  have hwl:(len+(m-len))*B≤reachBytes:=by
   have:=hws _ (List.mem_cons_self ..)
   rw [hB] at this
   simpa using this
  have hlb:len*B≤140737488351232:=by
   have hrb:reachBytes=140737488351232:=by decide
   rw [hrb] at hwl
   exact Nat.le_trans (Nat.mul_le_mul_right _ (by omega)) hwl
  have each:∀ i,i<len → ∃ z:α,(∃ c,c.length=d.sz∧d.K w z c ∧ ∀ j u,c[j]? = some u→w.cell? (a.add (i*d.sz+j))=some u)∧p z:=fun i hi=>by
   obtain ⟨cs',h1,h2⟩:=hx i (by simp only [if_true] at hmm;omega)
   obtain ⟨z,hz,hp⟩:=h H enc w n cs' _ h2 (fun q hq=>hws q (List.mem_cons_of_mem _ (List.mem_append.2 (.inl (qbc (List.mem_map.2 ⟨i,List.mem_range.2 hi,rfl⟩) hq)))))
   obtain ⟨_,hcl,hat⟩:=World.cells?_some h1
   refine ⟨z,⟨cs',d.K_len hz,hz,fun j u hu => ?_⟩,hp⟩
   have hj:j<cs'.length:=(List.getElem?_eq_some_iff.1 hu).1
   rw [d.K_len hz] at hj
   have hj':j<Try.prog.cellsOf e:=by rw [hc];exact hj
   have h3:=hat j hj'
   rw [Deep.add_add,hc] at h3
   rw [h3]
   exact hu
  by_cases h0:len=0
  ·
   subst h0
   exact ⟨[],⟨some a,cap,rfl,by simp,⟨rfl,by simp,fun hh=>by simp at hh⟩⟩,by simp,fun x hx=>by simp at hx⟩
  ·
   obtain ⟨z0,_⟩:=each 0 (by omega)
   have inst:Inhabited α:=⟨z0⟩
   obtain ⟨f,hfz⟩:=Deep.choose_lt each
   have hmx:cap≤9223372036854775807:=by unfold maxLen at hm;omega
   refine ⟨(List.range len).map f,⟨some a,cap,by simp,by simpa using hl,⟨rfl,by simp;omega,fun _=>⟨a,rfl,fun j q hj => ?_⟩⟩⟩,by simpa using hlb,fun x hx => ?_⟩
   ·
    have hj2:j<len:=by have:=(List.getElem?_eq_some_iff.1 hj).1;simpa using this
    rw [List.getElem?_map,List.getElem?_range hj2] at hj
    injection hj with hj
    subst hj;obtain ⟨c,c1,c2,c3⟩:=(hfz j hj2).1
    exact ⟨c,c1,c2,c3⟩
   ·
    obtain ⟨i,hi,rfl⟩:=List.mem_map.1 hx
    exact (hfz i (List.mem_range.1 hi)).2
theorem qf6:XE (Kd.slice 37 (Kd.slice 3 (Kd.int .i64))) 63 (fun l=>l.length*24≤140737488351232 ∧ ∀ x∈l,x.length*8≤140737488351232 ∧ ∀ y∈x,Wf y) :=
 qaz 24 (qaz 8 qjp.z Try.underlying37 c3 (by kernel_rfl)) Try.underlying63 c37 (by kernel_rfl)
section
variable {H:Type} {enc:TypeId × Value→H} {W:World} {d:DataW H} {ps:List MemPlace}
theorem qgI {α:Type} {k:Kd α} {t e':TypeId} {p:List α→Prop} (hr:XE (Kd.slice e' k) t p) {a:Option Addr} {len cap:Nat} {ts:List TypeId} {ds:List (DataW H)} {j:Nat}
  (hsz:(DataW.weightsEach Try.prog ts ds).all (· ≤ reachBytes)=true) (ht:ts[j]? = some t) (hd:ds[j]? = some d) (h:DataW.Trod enc Try.prog W 0 (fun _=>true) true t (.slice a len cap) d ps) :
  ∃ l:List α,len=l.length∧Kd.C k W a l.length l∧l.length≤cap∧p l:=by
 obtain ⟨fuel,hf⟩:=h
 obtain ⟨l,⟨A,c,e1,hc,hC⟩,hp⟩:=hr H enc W fuel _ _ hf (fun n hn=>by
  have:=List.all_eq_true.1 hsz n (DataW.weights_mem_each ht hd n hn)
  simpa using this)
 replace e1:[Value.slice a len cap]=[Value.slice A l.length c]:=e1
 injection e1 with e1
 injection e1 with e1 e2 e3
 subst e1 e2 e3
 exact ⟨l,rfl,hC,hc,hp⟩
end
end
end Go.Proofs.Ytmhomdohhihlcaa.P
