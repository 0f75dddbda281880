/- What the statement StockCloses leans on, part 5 of 5: contracts of the program's functions; conditions: none. -/
import Derived.Deep.RegionHeld3
import Derived.Deep.Slices
import Derived.ChangeSame
import Derived.OpenShut
import Derived.SizedLaws
import Derived.Lib.SmallJoins
import Derived.Test.YtmhomdohhihlcaaStockClosesx0
import Derived.Test.YtmhomdohhihlcaaStockClosesx1
import Derived.Test.YtmhomdohhihlcaaStockClosesx2
import Derived.Test.YtmhomdohhihlcaaStockClosesx3
set_option linter.unusedVariables false
set_option linter.unusedSimpArgs false
set_option linter.constructorNameAsVariable false
set_option linter.unusedSectionVars false
namespace Go.Proofs.Ytmhomdohhihlcaa.P
open Go.RowKit Go.Proofs.YtmhomdohhihlcaaW.PrintWords Go.Proofs.YtmhomdohhihlcaaW.PrintLast Go.Proofs.YtmhomdohhihlcaaW.PrintMore
section
attribute [local go_sem] Yr Yt YM YN Yi Yj Ys Yu
def Gu.f  : Option ((List (Z7))):=some (([(⟨50,8⟩:Z7),(⟨30,5⟩:Z7),(⟨20,1⟩:Z7),(⟨10,4⟩:Z7)]:List (Z7)))
set_option maxHeartbeats 8000000 in
set_option maxRecDepth 100000 in
theorem Gu.calls  (r:List (Z7)) (w:World) (h:Gu.f  = some r) :
  Calls Try.prog 62 #[] w fun e w' => ∃ v0_:Value,e = .returned (v0_)∧Kd.R UA 136 w' w.heap.size (fun _=>True) v0_ r∧Below w.heap.size w w':=by
 have qj4:=Try.underlying136
 have HB:=Q1.mk (Below.refl w.heap.size w)
 have H:(some (([(⟨50,8⟩:Z7),(⟨30,5⟩:Z7),(⟨20,1⟩:Z7),(⟨10,4⟩:Z7)]:List (Z7))))=some r:=h
 clear h
 obtain ⟨qz7,qe4⟩:∃ y_:List (Z7),y_=(([(⟨50,8⟩:Z7),(⟨30,5⟩:Z7),(⟨20,1⟩:Z7),(⟨10,4⟩:Z7)]:List (Z7))):=⟨_,rfl⟩
 replace H:(some qz7)=some r:=by first|(rw [qe4];with_reducible exact H)|(have H2_:=(Option.bind_some _ _).symm.trans H;rw [qe4];with_reducible exact H2_)|(have H2_:=(Option.bind_some _ _).symm.trans H;with_reducible exact H2_)|with_reducible exact H|(rw [qe4];exact H)|exact H
 have qnE:=Q1.mk qe4
 clear qe4
 obtain rfl:=Option.some.inj H
 go_enter Try.func62,Try.ntmps62
 go_wp2_with (first|((with_reducible refine Y0 (N:=5) rfl ?_);refine Kd.R_lit UA _ 136 ?hg (N:=5) ?hd (xs:=([(⟨50,8⟩:Z7),(⟨30,5⟩:Z7),(⟨20,1⟩:Z7),(⟨10,4⟩:Z7)]:List (Z7))) (inner:=[.int .i64 50,.int .i64 8,.int .i64 30,.int .i64 5,.int .i64 20,.int .i64 1,.int .i64 10,.int .i64 4]) (ok:=fun _=>True) (okp:=fun _=>True) ?hr ?hp (fun _ hk=>hk) trivial (Below.refl _ _) (Nat.le_refl _) (by simp) ?_;(case hd=>rfl);(case hg=>rfl);(case hr=>first|(go_simp;done)|(go_simp;rfl));(case hp=>exact (Reps.c2 (show Kd.M UA _ _ _ (⟨50,8⟩:Z7) [.int .i64 50,.int .i64 8] from (XW _ _ _ (⟨50,8⟩:Z7) )) (Reps.c2 (show Kd.M UA _ _ _ (⟨30,5⟩:Z7) [.int .i64 30,.int .i64 5] from (XW _ _ _ (⟨30,5⟩:Z7) )) (Reps.c2 (show Kd.M UA _ _ _ (⟨20,1⟩:Z7) [.int .i64 20,.int .i64 1] from (XW _ _ _ (⟨20,1⟩:Z7) )) (Reps.c2 (show Kd.M UA _ _ _ (⟨10,4⟩:Z7) [.int .i64 10,.int .i64 4] from (XW _ _ _ (⟨10,4⟩:Z7) )) (Reps.none _ _))))));intro qDE w1 ho2 hb hg_ hnew_;clear hg_ hnew_;(first|rw [← qnE.out] at ho2|(simp only [Int.reduceToNat] at ho2;rw [← qnE.out] at ho2));have n0_:=Q1.mk (Kd.R_lower ho2 (Qe (by repeat (first|(with_reducible first|exact HB.out|apply Q2|apply Q0|apply Q5)|exact HB.out))));have n1_:=Q1.mk (Qj (by repeat (first|(with_reducible first|exact HB.out|apply Q2|apply Q0|apply Q5)|exact HB.out)) hb);clear HB;have qpQ:=n0_;have HB:=n1_;clear n0_ n1_ hb ho2))
 go_ret
 exact ⟨_,by first|rfl|(simp [Qs,Qt]<;>rfl)|(simp [*,Qs,Qt]<;>rfl),by (with_reducible repeat (first|apply Kd.R_alloc|apply Kd.R_drewN|apply Kd.R_drew));exact qpQ.out,by repeat (first|(with_reducible first|exact HB.out|apply Q2|apply Q0|apply Q5)|exact HB.out)⟩
end
section
attribute [local go_sem] Yr Yt YM YN Yi Yj Ys Yu
def G2.f  : Option ((List (List Int))):=some (([(([0,1]:List Int)),(([1,2]:List Int)),(([2,3]:List Int))]:List (List Int)))
set_option maxHeartbeats 8000000 in
set_option maxRecDepth 100000 in
theorem G2.calls  (r:List (List Int)) (w:World) (h:G2.f  = some r) :
  Calls Try.prog 63 #[] w fun e w' => ∃ v0_:Value,e = .returned (v0_)∧Kd.N (Kd.slice 3 (Kd.int .i64)) 37 w' w.heap.size (fun k_=>(w.heap.size≤k_)) v0_ r∧Below w.heap.size w w':=by
 have HB:=Q1.mk (Below.refl w.heap.size w)
 have H:(some (([(([0,1]:List Int)),(([1,2]:List Int)),(([2,3]:List Int))]:List (List Int))))=some r:=h
 clear h
 obtain ⟨qfJ,qe5⟩:∃ y_:List Int,y_=(([0,1]:List Int)):=⟨_,rfl⟩
 replace H:(some (([qfJ,(([1,2]:List Int)),(([2,3]:List Int))]:List (List Int))))=some r:=by first|(rw [qe5];with_reducible exact H)|(have H2_:=(Option.bind_some _ _).symm.trans H;rw [qe5];with_reducible exact H2_)|(have H2_:=(Option.bind_some _ _).symm.trans H;with_reducible exact H2_)|with_reducible exact H|(rw [qe5];exact H)|exact H
 have qnF:=Q1.mk qe5
 clear qe5
 obtain ⟨qg7,qe6⟩:∃ y_:List Int,y_=(([1,2]:List Int)):=⟨_,rfl⟩
 replace H:(some (([qfJ,qg7,(([2,3]:List Int))]:List (List Int))))=some r:=by first|(rw [qe6];with_reducible exact H)|(have H2_:=(Option.bind_some _ _).symm.trans H;rw [qe6];with_reducible exact H2_)|(have H2_:=(Option.bind_some _ _).symm.trans H;with_reducible exact H2_)|with_reducible exact H|(rw [qe6];exact H)|exact H
 have qnG:=Q1.mk qe6
 clear qe6
 obtain ⟨qi2,qe7⟩:∃ y_:List Int,y_=(([2,3]:List Int)):=⟨_,rfl⟩
 replace H:(some (([qfJ,qg7,qi2]:List (List Int))))=some r:=by first|(rw [qe7];with_reducible exact H)|(have H2_:=(Option.bind_some _ _).symm.trans H;rw [qe7];with_reducible exact H2_)|(have H2_:=(Option.bind_some _ _).symm.trans H;with_reducible exact H2_)|with_reducible exact H|(rw [qe7];exact H)|exact H
 have qnH:=Q1.mk qe7
 clear qe7
 obtain ⟨qz8,qe8⟩:∃ y_:List (List Int),y_=(([qfJ,qg7,qi2]:List (List Int))):=⟨_,rfl⟩
 replace H:(some qz8)=some r:=by first|(rw [qe8];with_reducible exact H)|(have H2_:=(Option.bind_some _ _).symm.trans H;rw [qe8];with_reducible exact H2_)|(have H2_:=(Option.bind_some _ _).symm.trans H;with_reducible exact H2_)|with_reducible exact H|(rw [qe8];exact H)|exact H
 have qnI:=Q1.mk qe8
 clear qe8
 obtain rfl:=Option.some.inj H
 go_enter Try.func63,Try.ntmps63
 go_wp2_with (first|((with_reducible refine Y0 (N:=1) rfl ?_);refine Kd.R_lit (Kd.int .i64) _ 3 ?hg (N:=1) ?hd (xs:=([0,1]:List Int)) (inner:=[.int .i64 0,.int .i64 1]) (ok:=fun _=>True) (okp:=fun _=>True) ?hr ?hp (fun _ hk=>hk) trivial (Below.refl _ _) (Nat.le_refl _) (by simp) ?_;(case hd=>rfl);(case hg=>rfl);(case hr=>first|(go_simp;done)|(go_simp;rfl));(case hp=>exact (Reps.one (show Kd.M (Kd.int .i64) _ _ _ 0 [.int .i64 0] from rfl) (Reps.one (show Kd.M (Kd.int .i64) _ _ _ 1 [.int .i64 1] from rfl) (Reps.none _ _))));intro qDF w1 ho2 hb hg_ hnew_;clear hg_ hnew_;(first|rw [← qnF.out] at ho2|(simp only [Int.reduceToNat] at ho2;rw [← qnF.out] at ho2));have n0_:=Q1.mk (Kd.R_lower (Kd.R_newM (M:=fun k_=>(w.heap.size≤k_)) ho2 (Qe (by repeat (first|(with_reducible first|exact HB.out|apply Q2|apply Q0|apply Q5)|exact HB.out))) (fun k_ h_=>h_)) (Qe (by repeat (first|(with_reducible first|exact HB.out|apply Q2|apply Q0|apply Q5)|exact HB.out))));have n1_:=Q1.mk (Qj (by repeat (first|(with_reducible first|exact HB.out|apply Q2|apply Q0|apply Q5)|exact HB.out)) hb);clear HB;have UX:=n0_;have HB:=n1_;clear n0_ n1_ hb ho2)|((with_reducible refine Y0 (N:=2) rfl ?_);refine Kd.R_lit (Kd.int .i64) _ 3 ?hg (N:=2) ?hd (xs:=([1,2]:List Int)) (inner:=[.int .i64 1,.int .i64 2]) (ok:=fun _=>True) (okp:=fun _=>True) ?hr ?hp (fun _ hk=>hk) trivial (Below.refl _ _) (Nat.le_refl _) (by simp) ?_;(case hd=>rfl);(case hg=>rfl);(case hr=>first|(go_simp;done)|(go_simp;rfl));(case hp=>exact (Reps.one (show Kd.M (Kd.int .i64) _ _ _ 1 [.int .i64 1] from rfl) (Reps.one (show Kd.M (Kd.int .i64) _ _ _ 2 [.int .i64 2] from rfl) (Reps.none _ _))));intro qDG w3 ho4 hb hg_ hnew_;clear hg_ hnew_;(first|rw [← qnG.out] at ho4|(simp only [Int.reduceToNat] at ho4;rw [← qnG.out] at ho4));have n0_:=Q1.mk (Kd.R_elder' (by (with_reducible repeat (first|apply Kd.R_alloc|apply Kd.R_drewN|apply Kd.R_drew));exact UX.out) (Kd.R_base ho4) hb);have n1_:=Q1.mk (Kd.R_lower (Kd.R_new' (Kd.R_newM (M:=fun k_=>(w.heap.size≤k_)) ho4 (Qe (by repeat (first|(with_reducible first|exact HB.out|apply Q2|apply Q0|apply Q5)|exact HB.out))) (fun k_ h_=>h_)) (Kd.R_lt (by (with_reducible repeat (first|apply Kd.R_alloc|apply Kd.R_drewN|apply Kd.R_drew));exact UX.out))) (Qe (by repeat (first|(with_reducible first|exact HB.out|apply Q2|apply Q0|apply Q5)|exact HB.out))));have n2_:=Q1.mk (Qj (by repeat (first|(with_reducible first|exact HB.out|apply Q2|apply Q0|apply Q5)|exact HB.out)) hb);clear UX HB;have UX:=n0_;have qaH:=n1_;have HB:=n2_;clear n0_ n1_ n2_ hb ho4)|((with_reducible refine Y0 (N:=3) rfl ?_);refine Kd.R_lit (Kd.int .i64) _ 3 ?hg (N:=3) ?hd (xs:=([2,3]:List Int)) (inner:=[.int .i64 2,.int .i64 3]) (ok:=fun _=>True) (okp:=fun _=>True) ?hr ?hp (fun _ hk=>hk) trivial (Below.refl _ _) (Nat.le_refl _) (by simp) ?_;(case hd=>rfl);(case hg=>rfl);(case hr=>first|(go_simp;done)|(go_simp;rfl));(case hp=>exact (Reps.one (show Kd.M (Kd.int .i64) _ _ _ 2 [.int .i64 2] from rfl) (Reps.one (show Kd.M (Kd.int .i64) _ _ _ 3 [.int .i64 3] from rfl) (Reps.none _ _))));intro qDH w5 ho6 hb hg_ hnew_;clear hg_ hnew_;(first|rw [← qnH.out] at ho6|(simp only [Int.reduceToNat] at ho6;rw [← qnH.out] at ho6));have n0_:=Q1.mk (Kd.R_elder' (by (with_reducible repeat (first|apply Kd.R_alloc|apply Kd.R_drewN|apply Kd.R_drew));exact UX.out) (Kd.R_base ho6) hb);have n1_:=Q1.mk (Kd.R_elder' (by (with_reducible repeat (first|apply Kd.R_alloc|apply Kd.R_drewN|apply Kd.R_drew));exact qaH.out) (Kd.R_base ho6) hb);have n2_:=Q1.mk (Kd.R_lower (Kd.R_new' (Kd.R_new' (Kd.R_newM (M:=fun k_=>(w.heap.size≤k_)) ho6 (Qe (by repeat (first|(with_reducible first|exact HB.out|apply Q2|apply Q0|apply Q5)|exact HB.out))) (fun k_ h_=>h_)) (Kd.R_lt (by (with_reducible repeat (first|apply Kd.R_alloc|apply Kd.R_drewN|apply Kd.R_drew));exact UX.out))) (Kd.R_lt (by (with_reducible repeat (first|apply Kd.R_alloc|apply Kd.R_drewN|apply Kd.R_drew));exact qaH.out))) (Qe (by repeat (first|(with_reducible first|exact HB.out|apply Q2|apply Q0|apply Q5)|exact HB.out))));have n3_:=Q1.mk (Qj (by repeat (first|(with_reducible first|exact HB.out|apply Q2|apply Q0|apply Q5)|exact HB.out)) hb);clear UX qaH HB;have UX:=n0_;have qaH:=n1_;have qhj:=n2_;have HB:=n3_;clear n0_ n1_ n2_ n3_ hb ho6;obtain ⟨Ao7,co7,eo7⟩:=Kd.R_slice UX.out;subst eo7;obtain ⟨Ao8,co8,eo8⟩:=Kd.R_slice qaH.out;subst eo8;obtain ⟨Ao9,co9,eo9⟩:=Kd.R_slice qhj.out;subst eo9)|((with_reducible refine Y0 (N:=4) rfl ?_);refine Kd.N_lit (Kd.slice 3 (Kd.int .i64)) _ 37 ?hg (N':=4) ?hd (xs:=([qfJ,qg7,qi2]:List (List Int))) (inner:=[.slice Ao7 qfJ.length co7,.slice Ao8 qg7.length co8,.slice Ao9 qi2.length co9]) (ok:=(fun k_=>(w.heap.size≤k_))) (okp:=(fun k_=>(w.heap.size≤k_))) ?hr ?hp (fun _ hk=>hk) ((show ∀ k_,w5.heap.size≤k_→(fun k_=>(w.heap.size≤k_)) k_ from fun k_ hk=>(Nat.le_trans (Qe (by repeat (first|(with_reducible first|exact HB.out|apply Q2|apply Q0|apply Q5)|exact HB.out))) hk)) _ (Nat.le_refl _)) (Below.refl _ _) (Nat.le_refl _) (by simp) ?_;(case hd=>rfl);(case hg=>rfl);(case hr=>first|(go_simp;done)|(go_simp;rfl));(case hp=>exact (Reps.one (show Kd.FK (Kd.slice 3 (Kd.int .i64)) _ _ qfJ [.slice Ao7 qfJ.length co7] from (Kd.FK_slice_mk (Kd.R_reads' (Kd.R_mono (ok':=(fun k_=>(w.heap.size≤k_))) (UX.out) (fun k_ hk=>hk.1.1.1))).2.1 (Kd.R_F (Kd.R_mono (ok':=(fun k_=>(w.heap.size≤k_))) (UX.out) (fun k_ hk=>hk.1.1.1))))) (Reps.one (show Kd.FK (Kd.slice 3 (Kd.int .i64)) _ _ qg7 [.slice Ao8 qg7.length co8] from (Kd.FK_slice_mk (Kd.R_reads' (Kd.R_mono (ok':=(fun k_=>(w.heap.size≤k_))) (qaH.out) (fun k_ hk=>hk.1.1.1))).2.1 (Kd.R_F (Kd.R_mono (ok':=(fun k_=>(w.heap.size≤k_))) (qaH.out) (fun k_ hk=>hk.1.1.1))))) (Reps.one (show Kd.FK (Kd.slice 3 (Kd.int .i64)) _ _ qi2 [.slice Ao9 qi2.length co9] from (Kd.FK_slice_mk (Kd.R_reads' (Kd.R_mono (ok':=(fun k_=>(w.heap.size≤k_))) (qhj.out) (fun k_ hk=>hk.1.1.1))).2.1 (Kd.R_F (Kd.R_mono (ok':=(fun k_=>(w.heap.size≤k_))) (qhj.out) (fun k_ hk=>hk.1.1.1))))) (Reps.none _ _)))));intro qDI w10 qjX hb hg_ hnew_;clear hg_ hnew_;(first|rw [← qnI.out] at qjX|(simp only [Int.reduceToNat] at qjX;rw [← qnI.out] at qjX));have n0_:=Q1.mk (Kd.N_lower qjX (Qe (by repeat (first|(with_reducible first|exact HB.out|apply Q2|apply Q0|apply Q5)|exact HB.out))));have n1_:=Q1.mk (Qj (by repeat (first|(with_reducible first|exact HB.out|apply Q2|apply Q0|apply Q5)|exact HB.out)) hb);clear HB UX qaH qhj;have qpR:=n0_;have HB:=n1_;clear n0_ n1_ hb qjX))
 go_ret
 exact ⟨_,by first|rfl|(simp [Qs,Qt]<;>rfl)|(simp [*,Qs,Qt]<;>rfl),by (with_reducible repeat (first|apply Kd.N_alloc|apply Kd.N_drewN|apply Kd.N_drew));exact qpR.out,by repeat (first|(with_reducible first|exact HB.out|apply Q2|apply Q0|apply Q5)|exact HB.out)⟩
end
section
set_option maxRecDepth 100000
def qb0:List S68:=[⟨30,⟨2,2⟩⟩,⟨20,⟨3,4⟩⟩,⟨10,⟨4,6⟩⟩]
def qdb:List (List S25):=[[⟨60,70⟩,⟨30,40⟩],[⟨20,30⟩,⟨70,80⟩]]
def qf2:List S25:=[⟨45,50⟩,⟨50,55⟩]
def qbY:S39:=⟨[100,50,20],[800,700,500],[0,1,2],60,1⟩
def qbZ:S39:=⟨[60,60],[500,500],[1,1],50,0⟩
def qjG:List Z7:=[⟨50,8⟩,⟨30,5⟩,⟨20,1⟩,⟨10,4⟩]
def qda:List (List Int):=[[0,1],[1,2],[2,3]]
def Uy:List (List (List Int)):=[[[90,80],[10,10]],[[0,0],[0,0]]]
theorem qit:JP.f=some qb0:=by kernel_rfl
theorem qjN:G3.f=some qdb:=by kernel_rfl
theorem qk5:Gd.f=some qf2:=by kernel_rfl
theorem qis:ZR.f=some ([100,50,20],[800,700,500],[0,1,2],60,1):=by kernel_rfl
theorem qb1:Jn.f=some ([qbY,qbZ],[40,80],Uy):=by kernel_rfl
theorem qoH:Gu.f=some qjG:=by kernel_rfl
theorem qjM:G2.f=some qda:=by kernel_rfl
theorem qk3:QQ.f 40 qb0 4 6=some (10,30,0):=by kernel_rfl
theorem qk4:QC.f 20 [100,50,20] [800,700,500] [0,1,2] 60 1 [30,30] [90,80]=some ([40,78],0):=by kernel_rfl
theorem qjJ:Zi.f 40 [qbY,qbZ] [40,80] Uy=some (7,0):=by kernel_rfl
theorem qjI:YJ.f 40 [qbY,qbZ] [40,80] Uy 8=some (1,1,1,0):=by kernel_rfl
theorem qjK:QT.f 10 [40,78] [40,78]=some true:=by kernel_rfl
theorem qjL:QT.f 10 [0,2] [0,2]=some true:=by kernel_rfl
theorem qdc:YP.f 10 [⟨38,75⟩,⟨25,62⟩] [⟨38,75⟩,⟨25,62⟩]=some true:=by kernel_rfl
theorem qjH:Qh.f qjG qda 2=some ([0,2],110,18,0):=by kernel_rfl
theorem qir:Qr.f 20 qdb qf2=some ([⟨38,75⟩,⟨25,62⟩],0):=by kernel_rfl
end
section
attribute [local go_sem high] qjD
def Z8.f:Option Bool:=some true
structure qjm (p:Prop):Prop where
 out:p
theorem V_C {α:Type} {d:Kd α} {e:Nat} {w:World} {b:Nat} {ok:Nat→Prop} {v:Value} {xs:List α} (h:Kd.V d e w b ok v xs):∃ A c,v = .slice A xs.length c∧xs.length≤c∧Kd.C d w A xs.length xs:=by
 obtain ⟨A,c,hv,hl,hf⟩:=h
 exact ⟨A,c,hv,hl,Kd.F_now hf⟩
theorem qes {W:World} {o:Obj} {k:Nat} (h:W.heap.size=k):(W.alloc o).heap[k]? = some o:=by subst h;exact World.alloc_heap_new W o
theorem qg8 {W:World} {g:Nat} {a b:Int} (h:W.heap[g]? = some (.cells #[.int .i64 a,.int .i64 b] 3 (0,0))):Kd.C (Kd.int .i64) W (some ⟨g,0,none⟩) 2 [a,b]:=by
 refine ⟨rfl,by decide,fun _=>⟨_,rfl,fun j p hj=>⟨[.int .i64 p],rfl,rfl,fun i u hu => ?_⟩⟩⟩
 have hj2:j<2:=(List.getElem?_eq_some_iff.1 hj).1
 have hi:i=0:=by have:=(List.getElem?_eq_some_iff.1 hu).1;simpa using this
 subst hi
 have hu2:Value.int .i64 p=u:=by simpa using hu
 rw [Uu,Q8 h]
 subst hu2
 match j,hj2,hj with
 | 0,_,hj=>cases hj;rfl
 | 1,_,hj=>cases hj;rfl
theorem qkJ {W:World} {g:Nat} {a b a' b':Int} (h:W.heap[g]? = some (.cells #[.int .i64 a,.int .i64 b,.int .i64 a',.int .i64 b'] 25 (0,0))):Kd.C k25 W (some ⟨g,0,none⟩) 2 [⟨a,b⟩,⟨a',b'⟩]:=by
 refine ⟨rfl,by decide,fun _=>⟨_,rfl,fun j p hj=>⟨[.int .i64 p.f0,.int .i64 p.f1],rfl,qoU _ _,fun i u hu => ?_⟩⟩⟩
 have hj2:j<2:=(List.getElem?_eq_some_iff.1 hj).1
 have hi:i<2:=(List.getElem?_eq_some_iff.1 hu).1
 rw [Uu,Q8 h]
 match j,hj2,hj,i,hi,hu with
 | 0,_,hj,0,_,hu=>cases hj;cases hu;rfl
 | 0,_,hj,1,_,hu=>cases hj;cases hu;rfl
 | 1,_,hj,0,_,hu=>cases hj;cases hu;rfl
 | 1,_,hj,1,_,hu=>cases hj;cases hu;rfl
set_option maxHeartbeats 8000000 in
set_option maxRecDepth 100000 in
theorem Z8.calls (r:Bool) (w:World) (h:Z8.f=some r) :
  Calls Try.prog 21 #[] w fun e w'=>e = .returned (.bool r)∧Below w.heap.size w w':=by
 obtain rfl:true=r:=Option.some.inj h
 clear h
 have qaS:=Try.underlying25
 go_enter Try.func21,Try.ntmps21
 have B0:=Below.refl w.heap.size w
 go_wp2_with (first
  | (go_at_call 59;refine (JP.calls _ _ qit).mono ?_;rintro e w1 ⟨v,rfl,hv,hb1⟩;obtain ⟨A1,c1,rfl,hc1,hC1⟩:=Kd.R_reads hv;have B1:=B0.trans (hb1.mono B0.size);clear hv hb1)
  | (go_at_call 19;refine (QQ.calls 40 A1 c1 qb0 4 6 10 30 0 _ hC1 hc1 qk3).mono ?_;rintro e w2 ⟨rfl,hb2⟩;have B2:=B1.trans (hb2.mono B1.size);clear hC1 hc1 hb2)
  | (go_at_call 61;refine (G3.calls _ _ qjN).mono ?_;rintro e w3 ⟨v,rfl,hv,hb3⟩;obtain ⟨A3,c3,rfl,hc3,hC3⟩:=Kd.N_reads hv;have B3:=(Q2 B2 _).trans (hb3.mono (Q2 B2 _).size);have K3:=Qf (World.alloc_heap_new w2 _) hb3;clear hv)
  | (go_at_call 60;refine (Gd.calls _ _ qk5).mono ?_;rintro e w4 ⟨v,rfl,hv,hb4⟩;obtain ⟨A4,c4,rfl,hc4,hC4⟩:=Kd.R_reads hv;have B4:=B3.trans (hb4.mono B3.size);have qqt:=Kd.C_below hC3 hb4;have K4:=Qf K3 hb4;clear hv)
  | (go_at_call 22;refine (Qr.calls 20 A3 c3 qdb A4 c4 qf2 [⟨38,75⟩,⟨25,62⟩] 0 _ qqt hc3 hC4 hc4 qir).mono ?_;rintro e w5 ⟨v,rfl,hv,hb5⟩;obtain ⟨A5,c5,rfl,hc5,hC5⟩:=V_C hv;have B5:=B4.trans (hb5.mono B4.size);have K5:=Qf K4 hb5;clear K3 K4 hC3 qqt hC4 hc3 hc4 hv hb3 hb4 hb5)
  | (go_at_call 57;refine (ZR.calls _ _ _ _ _ _ qis).mono ?_;rintro e w6 ⟨u0,u1,u2,rfl,h0,h1,h2,hb6⟩;obtain ⟨A60,c60,rfl,qqF,qqy⟩:=Kd.R_reads h0;obtain ⟨A61,c61,rfl,qqG,qqz⟩:=Kd.R_reads h1;obtain ⟨A62,c62,rfl,qqH,qqA⟩:=Kd.R_reads h2;have B6:=B5.trans (hb6.mono B5.size);have K6:=Qf K5 hb6;have qqu:=Kd.C_below hC5 hb6;clear K5 h0 h1 h2 hC5 hb6)
  | (go_at_call 25;refine (QC.calls 20 A60 c60 [100,50,20] A61 c61 [800,700,500] A62 c62 [0,1,2] 60 1 _ 2 [30,30] _ 2 [90,80] [40,78] 0 _ ?q1 qqF ?q2 qqG ?q3 qqH ?q4 (Nat.le_refl 2) ?q5 (Nat.le_refl 2) qk4).mono ?_;(case q1=>exact Kd.C_alloc (Kd.C_alloc qqy _) _);(case q2=>exact Kd.C_alloc (Kd.C_alloc qqz _) _);(case q3=>exact Kd.C_alloc (Kd.C_alloc qqA _) _);(case q4=>exact qg8 (Q3 (World.alloc_heap_new w6 _) _));(case q5=>refine qg8 ?_;(have:=World.alloc_heap_new (w6.alloc (.cells #[.int .i64 30,.int .i64 30] 3)) (.cells #[.int .i64 90,.int .i64 80] 3));rwa [World.size_alloc] at this);rintro e w7 ⟨v,rfl,hv,hb7⟩;obtain ⟨A7,c7,rfl,hc7,hC7⟩:=V_C hv;have B7:=(Q2 (Q2 B6 _) _).trans (hb7.mono (Q2 (Q2 B6 _) _).size);have K7:=Qf (Q3 (Q3 K6 _) _) hb7;have qqv:=Kd.C_below (Kd.C_alloc (Kd.C_alloc qqu _) _) hb7;clear qqy qqz qqA qqF qqG qqH qqu K6 hv hb7)
  | (go_at_call 58;refine (Jn.calls _ _ _ _ qb1).mono ?_;rintro e w8 ⟨u0,u1,u2,rfl,h0,h1,h2,hb8⟩;obtain ⟨A80,c80,rfl,qjR,qjO⟩:=Kd.N_reads h0;obtain ⟨A81,c81,rfl,qjS,qjP⟩:=Kd.R_reads h1;obtain ⟨A82,c82,rfl,qjT,qjQ⟩:=Kd.N_reads h2;have B8:=B7.trans (hb8.mono B7.size);have K8:=Qf K7 hb8;have qqw:=Kd.C_below qqv hb8;have qqC:=Kd.C_below hC7 hb8;clear h0 h1 h2 qqv hC7 K7 hb8)
  | (go_at_call 28;refine (Zi.calls 40 A80 c80 [qbY,qbZ] A81 c81 [40,80] A82 c82 Uy 7 0 _ qjO qjR qjP qjS qjQ qjT qjJ).mono ?_;rintro e w9 ⟨rfl,hb9⟩;have B9:=B8.trans (hb9.mono B8.size);have K9:=Qf K8 hb9;have qqx:=Kd.C_below qqw hb9;have qqD:=Kd.C_below qqC hb9;clear qjO qjP qjQ qjR qjS qjT qqw qqC K8 hb9))
 have hSb:∀ z:World,Below w9.heap.size w9 z→z.cell? ⟨w2.heap.size,0,none⟩=some (.int .i64 10)∧z.cell? ⟨w2.heap.size,1,none⟩=some (.int .i64 30)∧Below w9.heap.size w9 z:=fun z hz =>
  ⟨(Q8 (Qf K9 hz) 0).trans rfl,(Q8 (Qf K9 hz) 1).trans rfl,hz⟩
 have HSb:=Q1.mk hSb
 have H59:=Q1.mk qqx
 have H79:=Q1.mk qqD
 have HB9:=Q1.mk B9
 clear hSb qqx qqD B0 B1 B2 B3 B4 B5 B6 B7 B8 B9 K9
 go_region_held3 (fun z=>z.cell? ⟨w2.heap.size,0,none⟩=some (.int .i64 10)∧z.cell? ⟨w2.heap.size,1,none⟩=some (.int .i64 30)∧Below w9.heap.size w9 z)
  (first|exact HSb.out _ (Ym (Below.refl _ _))|(refine HSb.out _ (Q2 ?hk _);(case hk=>exact (And.right (And.right ‹_∧_∧Below w9.heap.size w9 _›))))|(refine HSb.out _ (Q0 ?hk _);(case hk=>exact (And.right (And.right ‹_∧_∧Below w9.heap.size w9 _›))))|(refine HSb.out _ (Below.trans ?hk1 (hbz.mono ?hk2));(case hk1=>exact (And.right (And.right ‹_∧_∧Below w9.heap.size w9 _›)));(case hk2=>exact (And.right (And.right ‹_∧_∧Below w9.heap.size w9 _›)).size)))
  (first
   | (go_at_call 43;refine (QA.calls _ _ _ _ _ rfl).mono ?_;rintro e wz ⟨rfl,hbz⟩)
   | (go_at_call 24;refine (YP.calls 10 A5 c5 [⟨38,75⟩,⟨25,62⟩] _ 2 [⟨38,75⟩,⟨25,62⟩] true _ ?q1 hc5 ?q2 (Nat.le_refl 2) qdc).mono ?_;(case q1=>refine Kd.C_below H59.out ?hk;(case hk=>exact (And.right (And.right ‹_∧_∧Below w9.heap.size w9 _›))));(case q2=>refine qkJ ?_;exact World.alloc_heap_new _ _);rintro e wz ⟨rfl,⟨nd,rfl⟩⟩)
   | (go_at_call 27;refine (QT.calls 10 A7 c7 [40,78] _ 2 [40,78] true _ ?q1 hc7 ?q2 (Nat.le_refl 2) qjK).mono ?_;(case q1=>refine Kd.C_below H79.out ?hk;(case hk=>exact (And.right (And.right ‹_∧_∧Below w9.heap.size w9 _›))));(case q2=>refine qg8 (qes ?hs);(case hs=>first|rfl|exact World.size_alloc _ _));rintro e wz ⟨rfl,⟨nd,rfl⟩⟩))
 go_wp2_with (go_at_call 58;refine qjm.out ?_)
 refine qjm.mk ?_
 refine (Jn.calls _ _ _ _ qb1).mono ?_
 rintro e wa ⟨u0,u1,u2,rfl,h0,h1,h2,hba⟩
 have Ba:Below w.heap.size w wa:=by
  refine Below.trans ?_ (hba.mono ?_)
  ·
   exact HB9.out.trans ((And.right (And.right ‹_∧_∧Below w9.heap.size w9 _›)).mono HB9.out.size)
  ·
   exact (HB9.out.trans ((And.right (And.right ‹_∧_∧Below w9.heap.size w9 _›)).mono HB9.out.size)).size
 obtain ⟨A80,c80,rfl,qjR,qjO⟩:=Kd.N_reads h0
 obtain ⟨A81,c81,rfl,qjS,qjP⟩:=Kd.R_reads h1
 obtain ⟨A82,c82,rfl,qjT,qjQ⟩:=Kd.N_reads h2
 clear h0 h1 h2 hba
 go_wp2_with (first
  | (go_at_call 32;refine (YJ.calls 40 A80 c80 [qbY,qbZ] A81 c81 [40,80] A82 c82 Uy 8 1 1 1 0 _ qjO qjR qjP qjS qjQ qjT qjI).mono ?_;rintro e wb ⟨rfl,hbb⟩;have Bb:=Ba.trans (hbb.mono Ba.size);clear qjO qjP qjQ qjR qjS qjT hbb)
  | (go_at_call 62;refine (Gu.calls _ _ qoH).mono ?_;rintro e wc ⟨v,rfl,hv,hbc⟩;obtain ⟨Ac,cc,rfl,hcc,hCc⟩:=Kd.R_reads hv;have Bc:=Bb.trans (hbc.mono Bb.size);clear hv hbc)
  | (go_at_call 63;refine (G2.calls _ _ qjM).mono ?_;rintro e wd ⟨v,rfl,hv,hbd⟩;obtain ⟨Ad,cd,rfl,hcd,hCd⟩:=Kd.N_reads hv;have Bd:=Bc.trans (hbd.mono Bc.size);have hCc':=Kd.C_below hCc hbd;clear hv hbd hCc)
  | (go_at_call 40;refine (Qh.calls Ac cc qjG Ad cd qda 2 [0,2] 110 18 0 _ hCc' hcc hCd hcd qjH).mono ?_;rintro e we ⟨v,rfl,hv,hbe⟩;obtain ⟨Ae,ce,rfl,hce,hCe⟩:=V_C hv;have Be:=Bd.trans (hbe.mono Bd.size);clear hv hbe hCc' hCd hcc hcd)
  | (go_at_call 27;refine (QT.calls 10 Ae ce [0,2] _ 2 [0,2] true _ ?q1 hce ?q2 (Nat.le_refl 2) qjL).mono ?_;(case q1=>exact Kd.C_alloc hCe _);(case q2=>refine qg8 (qes ?hs);(case hs=>rfl));rintro e wf ⟨rfl,⟨ndf,rfl⟩⟩))
 go_ret
 exact ⟨rfl,Q0 (Q2 Be _) _⟩
end
section
attribute [local go_sem] Yr Yt YM YN Yi Yj Ys Yu
def ZU.f (k:Nat) (l0:List (Z7)) (l1:List (List Int)) (a2:Int):Option (Bool):=(Qh.f l0 l1 a2).bind fun Xj=>((Qa.f k l0 l1 a2).bind fun Kv=>((QT.f k Xj.1 Kv.1).bind fun qaX=>(if qaX=true then (if Xj.2.1=Kv.2.1 then (if Xj.2.2.1=Kv.2.2.1 then (if Xj.2.2.2=Kv.2.2.2 then ((Z8.f).bind fun WI=>(some WI)) else (some false)) else (some false)) else (some false)) else (some false))))
set_option maxHeartbeats 8000000 in
set_option maxRecDepth 100000 in
theorem ZU.calls (k:Nat) (A0:Option Addr) (c0:Nat) (l0:List (Z7)) (A1:Option Addr) (c1:Nat) (l1:List (List Int)) (a2:Int) (r:Bool) (w:World) (hr0:Kd.C UA w A0 l0.length l0) (hc0:l0.length≤c0) (hr1:Kd.C (Kd.slice 3 (Kd.int .i64)) w A1 l1.length l1) (hc1:l1.length≤c1) (h:ZU.f k l0 l1 a2=some r) :
  Calls Try.prog 8 #[.slice A0 l0.length c0,.slice A1 l1.length c1,.int .i64 a2] w fun e w'=>e = .returned (.bool r)∧Below w.heap.size w w':=by
 have HR0:=Q1.mk hr0
 have HC0:=Q1.mk hc0
 clear hr0 hc0
 have HR1:=Q1.mk hr1
 have HC1:=Q1.mk hc1
 clear hr1 hc1
 have HB:=Q1.mk (Below.refl w.heap.size w)
 have H:((Qh.f l0 l1 a2).bind fun Xj=>((Qa.f k l0 l1 a2).bind fun Kv=>((QT.f k Xj.1 Kv.1).bind fun qaX=>(if qaX=true then (if Xj.2.1=Kv.2.1 then (if Xj.2.2.1=Kv.2.2.1 then (if Xj.2.2.2=Kv.2.2.2 then ((Z8.f).bind fun WI=>(some WI)) else (some false)) else (some false)) else (some false)) else (some false)))))=some r:=h
 clear h
 replace H:=Option.bind_eq_some_iff.mp H
 obtain ⟨⟨Wg,qah,qai,qaj⟩,A40,H⟩:=H
 replace H:((Qa.f k l0 l1 a2).bind fun Kv=>((QT.f k Wg Kv.1).bind fun qaX=>(if qaX=true then (if qah=Kv.2.1 then (if qai=Kv.2.2.1 then (if qaj=Kv.2.2.2 then ((Z8.f).bind fun WI=>(some WI)) else (some false)) else (some false)) else (some false)) else (some false))))=some r:=H
 have A4:=Q1.mk A40
 clear A40
 replace H:=Option.bind_eq_some_iff.mp H
 obtain ⟨⟨WH,qax,qay,qaz⟩,A50,H⟩:=H
 replace H:((QT.f k Wg WH).bind fun qaX=>(if qaX=true then (if qah=qax then (if qai=qay then (if qaj=qaz then ((Z8.f).bind fun WI=>(some WI)) else (some false)) else (some false)) else (some false)) else (some false)))=some r:=H
 have A5:=Q1.mk A50
 clear A50
 replace H:=Option.bind_eq_some_iff.mp H
 obtain ⟨qaX,A60,H⟩:=H
 replace H:(if qaX=true then (if qah=qax then (if qai=qay then (if qaj=qaz then ((Z8.f).bind fun WI=>(some WI)) else (some false)) else (some false)) else (some false)) else (some false))=some r:=H
 have A6:=Q1.mk A60
 clear A60
 by_cases c7:qaX=true
 ·
  subst c7
  have H1:(if qah=qax then (if qai=qay then (if qaj=qaz then ((Z8.f).bind fun WI=>(some WI)) else (some false)) else (some false)) else (some false))=some r:=by rw [if_pos rfl] at H;exact H
  clear H
  have H:=H1
  clear H1
  by_cases c8:qah=qax
  ·
   rw [if_pos c8] at H
   have c8b0:(qah==qax)=true:=beq_iff_eq.mpr c8
   have c8b1:(qah != qax)=false:=bne_eq_false_iff_eq.mpr c8
   clear c8
   by_cases c9:qai=qay
   ·
    rw [if_pos c9] at H;have c9b0:(qai==qay)=true:=beq_iff_eq.mpr c9;have c9b1:(qai != qay)=false:=bne_eq_false_iff_eq.mpr c9;clear c9
    by_cases c10:qaj=qaz
    ·
     rw [if_pos c10] at H;have c10b0:(qaj==qaz)=true:=beq_iff_eq.mpr c10;have c10b1:(qaj != qaz)=false:=bne_eq_false_iff_eq.mpr c10;clear c10;replace H:=Option.bind_eq_some_iff.mp H;obtain ⟨WI,qbI,H⟩:=H;replace H:(some WI)=some r:=H;have A11:=Q1.mk qbI;clear qbI;obtain rfl:=Option.some.inj H
     go_enter Try.func8,Try.ntmps8
     go_wp2_with (first|((with_reducible refine Qp (f:=40) rfl ?_);refine Yd (some 19) rfl rfl Try.func40 (by kernel_rfl) rfl #[.slice A0 l0.length c0,.slice A1 l1.length c1,.int .i64 a2] rfl (by (try simp only [List.map_toArray,List.map_cons,List.map_nil]);first|done|rfl|(simp only [List.length_drop,List.length_take];rfl)) ?_;(with_reducible refine (Qh.calls _ _ l0 _ _ l1 a2 Wg qah qai qaj _ ?side1 ?side2 ?side3 ?side4 A4.out).mono ?_);(case side1=>repeat (first|exact HR0.out|(with_reducible refine Kd.C_alloc ?_ _)|(with_reducible refine Kd.C_drewN ?_ _)|(with_reducible refine Kd.C_drew ?_)));(case side2=>exact HC0.out);(case side3=>repeat (first|exact HR1.out|(with_reducible refine Kd.C_alloc ?_ _)|(with_reducible refine Kd.C_drewN ?_ _)|(with_reducible refine Kd.C_drew ?_)));(case side4=>exact HC1.out);rintro e w12 ⟨qm1,rfl,ho0,hb⟩;refine ⟨_,rfl,?_⟩;have n0_:=Q1.mk (Kd.V_lower (Kd.V_mono (ok':=fun k_=>True) ho0 (fun k_ hk_=>trivial)) (Qe (by repeat (first|(with_reducible first|exact HB.out|apply Q2|apply Q0|apply Q5)|exact HB.out))));have n1_:=Q1.mk (Qj (by repeat (first|(with_reducible first|exact HB.out|apply Q2|apply Q0|apply Q5)|exact HB.out)) hb);clear HB;have Jc:=n0_;have HB:=n1_;clear n0_ n1_;(try clear hb);(try clear hb2);(try clear hk);(try clear hi);(try clear ho0))|((with_reducible refine Qp (f:=41) rfl ?_);refine Yd (some 28) rfl rfl Try.func41 (by kernel_rfl) rfl #[.slice A0 l0.length c0,.slice A1 l1.length c1,.int .i64 a2] rfl (by (try simp only [List.map_toArray,List.map_cons,List.map_nil]);first|done|rfl|(simp only [List.length_drop,List.length_take];rfl)) ?_;(with_reducible refine (Qa.calls k _ _ l0 _ _ l1 a2 WH qax qay qaz _ ?side1 ?side2 ?side3 ?side4 A5.out).mono ?_);(case side1=>repeat (first|exact (Kd.C_below HR0.out HB.out)|(with_reducible refine Kd.C_alloc ?_ _)|(with_reducible refine Kd.C_drewN ?_ _)|(with_reducible refine Kd.C_drew ?_)));(case side2=>exact HC0.out);(case side3=>repeat (first|exact (Kd.C_below HR1.out HB.out)|(with_reducible refine Kd.C_alloc ?_ _)|(with_reducible refine Kd.C_drewN ?_ _)|(with_reducible refine Kd.C_drew ?_)));(case side4=>exact HC1.out);rintro e w13 ⟨qm2,rfl,ho0,hb⟩;refine ⟨_,rfl,?_⟩;have n0_:=Q1.mk (Kd.V_elder' (by (with_reducible repeat (first|apply Kd.V_alloc|apply Kd.V_drewN|apply Kd.V_drew));exact Jc.out) (Kd.R_base ho0) hb);have n1_:=Q1.mk (Kd.R_lower ho0 (Qe (by repeat (first|(with_reducible first|exact HB.out|apply Q2|apply Q0|apply Q5)|exact HB.out))));have n2_:=Q1.mk (Qj (by repeat (first|(with_reducible first|exact HB.out|apply Q2|apply Q0|apply Q5)|exact HB.out)) hb);clear Jc HB;have Jc:=n0_;have Gz:=n1_;have HB:=n2_;clear n0_ n1_ n2_;(try clear hb);(try clear hb2);(try clear hk);(try clear hi);(try clear ho0);obtain ⟨qkE,qkY,qoy⟩:=Kd.V_slice Jc.out;subst qoy;obtain ⟨qyi,qyG,qy9⟩:=Kd.R_slice Gz.out;subst qy9)|((with_reducible refine Qp (f:=27) rfl ?_);refine Yd (some 35) rfl rfl Try.func27 (by kernel_rfl) rfl #[.slice qkE Wg.length qkY,.slice qyi WH.length qyG] rfl (by (try simp only [List.map_toArray,List.map_cons,List.map_nil]);first|done|rfl|(simp only [List.length_drop,List.length_take];rfl)) ?_;(with_reducible refine (QT.calls k _ _ Wg _ _ WH true _ ?side1 ?side2 ?side3 ?side4 A6.out).mono ?_);(case side1=>repeat (first|exact (Kd.V_reads' Jc.out).2.2|(with_reducible refine Kd.C_alloc ?_ _)|(with_reducible refine Kd.C_drewN ?_ _)|(with_reducible refine Kd.C_drew ?_)));(case side2=>exact (Kd.V_reads' Jc.out).2.1);(case side3=>repeat (first|exact (Kd.R_reads' Gz.out).2.2|(with_reducible refine Kd.C_alloc ?_ _)|(with_reducible refine Kd.C_drewN ?_ _)|(with_reducible refine Kd.C_drew ?_)));(case side4=>exact (Kd.R_reads' Gz.out).2.1);rintro e w' ⟨rfl,⟨nd,rfl⟩⟩;refine ⟨_,rfl,?_⟩)|(go_at_call 21;(with_reducible refine (Z8.calls  WI _ A11.out).mono ?_);rintro e w16 ⟨rfl,hb⟩;have n0_:=Q1.mk (Kd.V_below (by (with_reducible repeat (first|apply Kd.V_alloc|apply Kd.V_drewN|apply Kd.V_drew));exact Jc.out) hb);have n1_:=Q1.mk (Kd.R_below (by (with_reducible repeat (first|apply Kd.R_alloc|apply Kd.R_drewN|apply Kd.R_drew));exact Gz.out) hb);have n2_:=Q1.mk (Qj (by repeat (first|(with_reducible first|exact HB.out|apply Q2|apply Q0|apply Q5)|exact HB.out)) hb);clear Jc Gz HB;have Jc:=n0_;have Gz:=n1_;have HB:=n2_;clear n0_ n1_ n2_;(try clear hb);(try clear hb2);(try clear hk);(try clear hi)))
     go_ret
     exact ⟨by first|rfl|(simp [Qs,Qt]<;>rfl)|(simp [*,Qs,Qt]<;>rfl),by repeat (first|(with_reducible first|exact HB.out|apply Q2|apply Q0|apply Q5)|exact HB.out)⟩
    rw [if_neg c10] at H;have c10b0:(qaj==qaz)=false:=beq_eq_false_iff_ne.mpr c10;have c10b1:(qaj != qaz)=true:=bne_iff_ne.mpr c10;obtain rfl:=Option.some.inj H
    go_enter Try.func8,Try.ntmps8
    go_wp2_with (first|((with_reducible refine Qp (f:=40) rfl ?_);refine Yd (some 19) rfl rfl Try.func40 (by kernel_rfl) rfl #[.slice A0 l0.length c0,.slice A1 l1.length c1,.int .i64 a2] rfl (by (try simp only [List.map_toArray,List.map_cons,List.map_nil]);first|done|rfl|(simp only [List.length_drop,List.length_take];rfl)) ?_;(with_reducible refine (Qh.calls _ _ l0 _ _ l1 a2 Wg qah qai qaj _ ?side1 ?side2 ?side3 ?side4 A4.out).mono ?_);(case side1=>repeat (first|exact HR0.out|(with_reducible refine Kd.C_alloc ?_ _)|(with_reducible refine Kd.C_drewN ?_ _)|(with_reducible refine Kd.C_drew ?_)));(case side2=>exact HC0.out);(case side3=>repeat (first|exact HR1.out|(with_reducible refine Kd.C_alloc ?_ _)|(with_reducible refine Kd.C_drewN ?_ _)|(with_reducible refine Kd.C_drew ?_)));(case side4=>exact HC1.out);rintro e w17 ⟨qm1,rfl,ho0,hb⟩;refine ⟨_,rfl,?_⟩;have n0_:=Q1.mk (Kd.V_lower (Kd.V_mono (ok':=fun k_=>True) ho0 (fun k_ hk_=>trivial)) (Qe (by repeat (first|(with_reducible first|exact HB.out|apply Q2|apply Q0|apply Q5)|exact HB.out))));have n1_:=Q1.mk (Qj (by repeat (first|(with_reducible first|exact HB.out|apply Q2|apply Q0|apply Q5)|exact HB.out)) hb);clear HB;have Jc:=n0_;have HB:=n1_;clear n0_ n1_;(try clear hb);(try clear hb2);(try clear hk);(try clear hi);(try clear ho0))|((with_reducible refine Qp (f:=41) rfl ?_);refine Yd (some 28) rfl rfl Try.func41 (by kernel_rfl) rfl #[.slice A0 l0.length c0,.slice A1 l1.length c1,.int .i64 a2] rfl (by (try simp only [List.map_toArray,List.map_cons,List.map_nil]);first|done|rfl|(simp only [List.length_drop,List.length_take];rfl)) ?_;(with_reducible refine (Qa.calls k _ _ l0 _ _ l1 a2 WH qax qay qaz _ ?side1 ?side2 ?side3 ?side4 A5.out).mono ?_);(case side1=>repeat (first|exact (Kd.C_below HR0.out HB.out)|(with_reducible refine Kd.C_alloc ?_ _)|(with_reducible refine Kd.C_drewN ?_ _)|(with_reducible refine Kd.C_drew ?_)));(case side2=>exact HC0.out);(case side3=>repeat (first|exact (Kd.C_below HR1.out HB.out)|(with_reducible refine Kd.C_alloc ?_ _)|(with_reducible refine Kd.C_drewN ?_ _)|(with_reducible refine Kd.C_drew ?_)));(case side4=>exact HC1.out);rintro e w18 ⟨qm2,rfl,ho0,hb⟩;refine ⟨_,rfl,?_⟩;have n0_:=Q1.mk (Kd.V_elder' (by (with_reducible repeat (first|apply Kd.V_alloc|apply Kd.V_drewN|apply Kd.V_drew));exact Jc.out) (Kd.R_base ho0) hb);have n1_:=Q1.mk (Kd.R_lower ho0 (Qe (by repeat (first|(with_reducible first|exact HB.out|apply Q2|apply Q0|apply Q5)|exact HB.out))));have n2_:=Q1.mk (Qj (by repeat (first|(with_reducible first|exact HB.out|apply Q2|apply Q0|apply Q5)|exact HB.out)) hb);clear Jc HB;have Jc:=n0_;have Gz:=n1_;have HB:=n2_;clear n0_ n1_ n2_;(try clear hb);(try clear hb2);(try clear hk);(try clear hi);(try clear ho0);obtain ⟨qyj,qyH,qza⟩:=Kd.V_slice Jc.out;subst qza;obtain ⟨qkF,qkZ,qoA⟩:=Kd.R_slice Gz.out;subst qoA)|((with_reducible refine Qp (f:=27) rfl ?_);refine Yd (some 35) rfl rfl Try.func27 (by kernel_rfl) rfl #[.slice qyj Wg.length qyH,.slice qkF WH.length qkZ] rfl (by (try simp only [List.map_toArray,List.map_cons,List.map_nil]);first|done|rfl|(simp only [List.length_drop,List.length_take];rfl)) ?_;(with_reducible refine (QT.calls k _ _ Wg _ _ WH true _ ?side1 ?side2 ?side3 ?side4 A6.out).mono ?_);(case side1=>repeat (first|exact (Kd.V_reads' Jc.out).2.2|(with_reducible refine Kd.C_alloc ?_ _)|(with_reducible refine Kd.C_drewN ?_ _)|(with_reducible refine Kd.C_drew ?_)));(case side2=>exact (Kd.V_reads' Jc.out).2.1);(case side3=>repeat (first|exact (Kd.R_reads' Gz.out).2.2|(with_reducible refine Kd.C_alloc ?_ _)|(with_reducible refine Kd.C_drewN ?_ _)|(with_reducible refine Kd.C_drew ?_)));(case side4=>exact (Kd.R_reads' Gz.out).2.1);rintro e w' ⟨rfl,⟨nd,rfl⟩⟩;refine ⟨_,rfl,?_⟩))
    go_ret
    exact ⟨by first|rfl|(simp [Qs,Qt]<;>rfl)|(simp [*,Qs,Qt]<;>rfl),by repeat (first|(with_reducible first|exact HB.out|apply Q2|apply Q0|apply Q5)|exact HB.out)⟩
   rw [if_neg c9] at H
   have c9b0:(qai==qay)=false:=beq_eq_false_iff_ne.mpr c9
   have c9b1:(qai != qay)=true:=bne_iff_ne.mpr c9
   obtain rfl:=Option.some.inj H
   go_enter Try.func8,Try.ntmps8
   go_wp2_with (first|((with_reducible refine Qp (f:=40) rfl ?_);refine Yd (some 19) rfl rfl Try.func40 (by kernel_rfl) rfl #[.slice A0 l0.length c0,.slice A1 l1.length c1,.int .i64 a2] rfl (by (try simp only [List.map_toArray,List.map_cons,List.map_nil]);first|done|rfl|(simp only [List.length_drop,List.length_take];rfl)) ?_;(with_reducible refine (Qh.calls _ _ l0 _ _ l1 a2 Wg qah qai qaj _ ?side1 ?side2 ?side3 ?side4 A4.out).mono ?_);(case side1=>repeat (first|exact HR0.out|(with_reducible refine Kd.C_alloc ?_ _)|(with_reducible refine Kd.C_drewN ?_ _)|(with_reducible refine Kd.C_drew ?_)));(case side2=>exact HC0.out);(case side3=>repeat (first|exact HR1.out|(with_reducible refine Kd.C_alloc ?_ _)|(with_reducible refine Kd.C_drewN ?_ _)|(with_reducible refine Kd.C_drew ?_)));(case side4=>exact HC1.out);rintro e w21 ⟨qm1,rfl,ho0,hb⟩;refine ⟨_,rfl,?_⟩;have n0_:=Q1.mk (Kd.V_lower (Kd.V_mono (ok':=fun k_=>True) ho0 (fun k_ hk_=>trivial)) (Qe (by repeat (first|(with_reducible first|exact HB.out|apply Q2|apply Q0|apply Q5)|exact HB.out))));have n1_:=Q1.mk (Qj (by repeat (first|(with_reducible first|exact HB.out|apply Q2|apply Q0|apply Q5)|exact HB.out)) hb);clear HB;have Jc:=n0_;have HB:=n1_;clear n0_ n1_;(try clear hb);(try clear hb2);(try clear hk);(try clear hi);(try clear ho0))|((with_reducible refine Qp (f:=41) rfl ?_);refine Yd (some 28) rfl rfl Try.func41 (by kernel_rfl) rfl #[.slice A0 l0.length c0,.slice A1 l1.length c1,.int .i64 a2] rfl (by (try simp only [List.map_toArray,List.map_cons,List.map_nil]);first|done|rfl|(simp only [List.length_drop,List.length_take];rfl)) ?_;(with_reducible refine (Qa.calls k _ _ l0 _ _ l1 a2 WH qax qay qaz _ ?side1 ?side2 ?side3 ?side4 A5.out).mono ?_);(case side1=>repeat (first|exact (Kd.C_below HR0.out HB.out)|(with_reducible refine Kd.C_alloc ?_ _)|(with_reducible refine Kd.C_drewN ?_ _)|(with_reducible refine Kd.C_drew ?_)));(case side2=>exact HC0.out);(case side3=>repeat (first|exact (Kd.C_below HR1.out HB.out)|(with_reducible refine Kd.C_alloc ?_ _)|(with_reducible refine Kd.C_drewN ?_ _)|(with_reducible refine Kd.C_drew ?_)));(case side4=>exact HC1.out);rintro e w22 ⟨qm2,rfl,ho0,hb⟩;refine ⟨_,rfl,?_⟩;have n0_:=Q1.mk (Kd.V_elder' (by (with_reducible repeat (first|apply Kd.V_alloc|apply Kd.V_drewN|apply Kd.V_drew));exact Jc.out) (Kd.R_base ho0) hb);have n1_:=Q1.mk (Kd.R_lower ho0 (Qe (by repeat (first|(with_reducible first|exact HB.out|apply Q2|apply Q0|apply Q5)|exact HB.out))));have n2_:=Q1.mk (Qj (by repeat (first|(with_reducible first|exact HB.out|apply Q2|apply Q0|apply Q5)|exact HB.out)) hb);clear Jc HB;have Jc:=n0_;have Gz:=n1_;have HB:=n2_;clear n0_ n1_ n2_;(try clear hb);(try clear hb2);(try clear hk);(try clear hi);(try clear ho0);obtain ⟨qyk,qyI,qzc⟩:=Kd.V_slice Jc.out;subst qzc;obtain ⟨qyl,qyJ,qzd⟩:=Kd.R_slice Gz.out;subst qzd)|((with_reducible refine Qp (f:=27) rfl ?_);refine Yd (some 35) rfl rfl Try.func27 (by kernel_rfl) rfl #[.slice qyk Wg.length qyI,.slice qyl WH.length qyJ] rfl (by (try simp only [List.map_toArray,List.map_cons,List.map_nil]);first|done|rfl|(simp only [List.length_drop,List.length_take];rfl)) ?_;(with_reducible refine (QT.calls k _ _ Wg _ _ WH true _ ?side1 ?side2 ?side3 ?side4 A6.out).mono ?_);(case side1=>repeat (first|exact (Kd.V_reads' Jc.out).2.2|(with_reducible refine Kd.C_alloc ?_ _)|(with_reducible refine Kd.C_drewN ?_ _)|(with_reducible refine Kd.C_drew ?_)));(case side2=>exact (Kd.V_reads' Jc.out).2.1);(case side3=>repeat (first|exact (Kd.R_reads' Gz.out).2.2|(with_reducible refine Kd.C_alloc ?_ _)|(with_reducible refine Kd.C_drewN ?_ _)|(with_reducible refine Kd.C_drew ?_)));(case side4=>exact (Kd.R_reads' Gz.out).2.1);rintro e w' ⟨rfl,⟨nd,rfl⟩⟩;refine ⟨_,rfl,?_⟩))
   go_ret
   exact ⟨by first|rfl|(simp [Qs,Qt]<;>rfl)|(simp [*,Qs,Qt]<;>rfl),by repeat (first|(with_reducible first|exact HB.out|apply Q2|apply Q0|apply Q5)|exact HB.out)⟩
  rw [if_neg c8] at H
  have c8b0:(qah==qax)=false:=beq_eq_false_iff_ne.mpr c8
  have c8b1:(qah != qax)=true:=bne_iff_ne.mpr c8
  obtain rfl:=Option.some.inj H
  go_enter Try.func8,Try.ntmps8
  go_wp2_with (first|((with_reducible refine Qp (f:=40) rfl ?_);refine Yd (some 19) rfl rfl Try.func40 (by kernel_rfl) rfl #[.slice A0 l0.length c0,.slice A1 l1.length c1,.int .i64 a2] rfl (by (try simp only [List.map_toArray,List.map_cons,List.map_nil]);first|done|rfl|(simp only [List.length_drop,List.length_take];rfl)) ?_;(with_reducible refine (Qh.calls _ _ l0 _ _ l1 a2 Wg qah qai qaj _ ?side1 ?side2 ?side3 ?side4 A4.out).mono ?_);(case side1=>repeat (first|exact HR0.out|(with_reducible refine Kd.C_alloc ?_ _)|(with_reducible refine Kd.C_drewN ?_ _)|(with_reducible refine Kd.C_drew ?_)));(case side2=>exact HC0.out);(case side3=>repeat (first|exact HR1.out|(with_reducible refine Kd.C_alloc ?_ _)|(with_reducible refine Kd.C_drewN ?_ _)|(with_reducible refine Kd.C_drew ?_)));(case side4=>exact HC1.out);rintro e w25 ⟨qm1,rfl,ho0,hb⟩;refine ⟨_,rfl,?_⟩;have n0_:=Q1.mk (Kd.V_lower (Kd.V_mono (ok':=fun k_=>True) ho0 (fun k_ hk_=>trivial)) (Qe (by repeat (first|(with_reducible first|exact HB.out|apply Q2|apply Q0|apply Q5)|exact HB.out))));have n1_:=Q1.mk (Qj (by repeat (first|(with_reducible first|exact HB.out|apply Q2|apply Q0|apply Q5)|exact HB.out)) hb);clear HB;have Jc:=n0_;have HB:=n1_;clear n0_ n1_;(try clear hb);(try clear hb2);(try clear hk);(try clear hi);(try clear ho0))|((with_reducible refine Qp (f:=41) rfl ?_);refine Yd (some 28) rfl rfl Try.func41 (by kernel_rfl) rfl #[.slice A0 l0.length c0,.slice A1 l1.length c1,.int .i64 a2] rfl (by (try simp only [List.map_toArray,List.map_cons,List.map_nil]);first|done|rfl|(simp only [List.length_drop,List.length_take];rfl)) ?_;(with_reducible refine (Qa.calls k _ _ l0 _ _ l1 a2 WH qax qay qaz _ ?side1 ?side2 ?side3 ?side4 A5.out).mono ?_);(case side1=>repeat (first|exact (Kd.C_below HR0.out HB.out)|(with_reducible refine Kd.C_alloc ?_ _)|(with_reducible refine Kd.C_drewN ?_ _)|(with_reducible refine Kd.C_drew ?_)));(case side2=>exact HC0.out);(case side3=>repeat (first|exact (Kd.C_below HR1.out HB.out)|(with_reducible refine Kd.C_alloc ?_ _)|(with_reducible refine Kd.C_drewN ?_ _)|(with_reducible refine Kd.C_drew ?_)));(case side4=>exact HC1.out);rintro e w26 ⟨qm2,rfl,ho0,hb⟩;refine ⟨_,rfl,?_⟩;have n0_:=Q1.mk (Kd.V_elder' (by (with_reducible repeat (first|apply Kd.V_alloc|apply Kd.V_drewN|apply Kd.V_drew));exact Jc.out) (Kd.R_base ho0) hb);have n1_:=Q1.mk (Kd.R_lower ho0 (Qe (by repeat (first|(with_reducible first|exact HB.out|apply Q2|apply Q0|apply Q5)|exact HB.out))));have n2_:=Q1.mk (Qj (by repeat (first|(with_reducible first|exact HB.out|apply Q2|apply Q0|apply Q5)|exact HB.out)) hb);clear Jc HB;have Jc:=n0_;have Gz:=n1_;have HB:=n2_;clear n0_ n1_ n2_;(try clear hb);(try clear hb2);(try clear hk);(try clear hi);(try clear ho0);obtain ⟨qpD,qql,qoB⟩:=Kd.V_slice Jc.out;subst qoB;obtain ⟨qkG,qk0,qoC⟩:=Kd.R_slice Gz.out;subst qoC)|((with_reducible refine Qp (f:=27) rfl ?_);refine Yd (some 35) rfl rfl Try.func27 (by kernel_rfl) rfl #[.slice qpD Wg.length qql,.slice qkG WH.length qk0] rfl (by (try simp only [List.map_toArray,List.map_cons,List.map_nil]);first|done|rfl|(simp only [List.length_drop,List.length_take];rfl)) ?_;(with_reducible refine (QT.calls k _ _ Wg _ _ WH true _ ?side1 ?side2 ?side3 ?side4 A6.out).mono ?_);(case side1=>repeat (first|exact (Kd.V_reads' Jc.out).2.2|(with_reducible refine Kd.C_alloc ?_ _)|(with_reducible refine Kd.C_drewN ?_ _)|(with_reducible refine Kd.C_drew ?_)));(case side2=>exact (Kd.V_reads' Jc.out).2.1);(case side3=>repeat (first|exact (Kd.R_reads' Gz.out).2.2|(with_reducible refine Kd.C_alloc ?_ _)|(with_reducible refine Kd.C_drewN ?_ _)|(with_reducible refine Kd.C_drew ?_)));(case side4=>exact (Kd.R_reads' Gz.out).2.1);rintro e w' ⟨rfl,⟨nd,rfl⟩⟩;refine ⟨_,rfl,?_⟩))
  go_ret
  exact ⟨by first|rfl|(simp [Qs,Qt]<;>rfl)|(simp [*,Qs,Qt]<;>rfl),by repeat (first|(with_reducible first|exact HB.out|apply Q2|apply Q0|apply Q5)|exact HB.out)⟩
 replace c7:=Bool.eq_false_iff.mpr c7
 subst c7
 have H1:(some false)=some r:=by rw [if_neg (show ¬ (false=true) by decide)] at H;exact H
 clear H
 have H:=H1
 clear H1
 obtain rfl:=Option.some.inj H
 go_enter Try.func8,Try.ntmps8
 go_wp2_with (first|((with_reducible refine Qp (f:=40) rfl ?_);refine Yd (some 19) rfl rfl Try.func40 (by kernel_rfl) rfl #[.slice A0 l0.length c0,.slice A1 l1.length c1,.int .i64 a2] rfl (by (try simp only [List.map_toArray,List.map_cons,List.map_nil]);first|done|rfl|(simp only [List.length_drop,List.length_take];rfl)) ?_;(with_reducible refine (Qh.calls _ _ l0 _ _ l1 a2 Wg qah qai qaj _ ?side1 ?side2 ?side3 ?side4 A4.out).mono ?_);(case side1=>repeat (first|exact HR0.out|(with_reducible refine Kd.C_alloc ?_ _)|(with_reducible refine Kd.C_drewN ?_ _)|(with_reducible refine Kd.C_drew ?_)));(case side2=>exact HC0.out);(case side3=>repeat (first|exact HR1.out|(with_reducible refine Kd.C_alloc ?_ _)|(with_reducible refine Kd.C_drewN ?_ _)|(with_reducible refine Kd.C_drew ?_)));(case side4=>exact HC1.out);rintro e w29 ⟨qm1,rfl,ho0,hb⟩;refine ⟨_,rfl,?_⟩;have n0_:=Q1.mk (Kd.V_lower (Kd.V_mono (ok':=fun k_=>True) ho0 (fun k_ hk_=>trivial)) (Qe (by repeat (first|(with_reducible first|exact HB.out|apply Q2|apply Q0|apply Q5)|exact HB.out))));have n1_:=Q1.mk (Qj (by repeat (first|(with_reducible first|exact HB.out|apply Q2|apply Q0|apply Q5)|exact HB.out)) hb);clear HB;have Jc:=n0_;have HB:=n1_;clear n0_ n1_;(try clear hb);(try clear hb2);(try clear hk);(try clear hi);(try clear ho0))|((with_reducible refine Qp (f:=41) rfl ?_);refine Yd (some 28) rfl rfl Try.func41 (by kernel_rfl) rfl #[.slice A0 l0.length c0,.slice A1 l1.length c1,.int .i64 a2] rfl (by (try simp only [List.map_toArray,List.map_cons,List.map_nil]);first|done|rfl|(simp only [List.length_drop,List.length_take];rfl)) ?_;(with_reducible refine (Qa.calls k _ _ l0 _ _ l1 a2 WH qax qay qaz _ ?side1 ?side2 ?side3 ?side4 A5.out).mono ?_);(case side1=>repeat (first|exact (Kd.C_below HR0.out HB.out)|(with_reducible refine Kd.C_alloc ?_ _)|(with_reducible refine Kd.C_drewN ?_ _)|(with_reducible refine Kd.C_drew ?_)));(case side2=>exact HC0.out);(case side3=>repeat (first|exact (Kd.C_below HR1.out HB.out)|(with_reducible refine Kd.C_alloc ?_ _)|(with_reducible refine Kd.C_drewN ?_ _)|(with_reducible refine Kd.C_drew ?_)));(case side4=>exact HC1.out);rintro e w30 ⟨qm2,rfl,ho0,hb⟩;refine ⟨_,rfl,?_⟩;have n0_:=Q1.mk (Kd.V_elder' (by (with_reducible repeat (first|apply Kd.V_alloc|apply Kd.V_drewN|apply Kd.V_drew));exact Jc.out) (Kd.R_base ho0) hb);have n1_:=Q1.mk (Kd.R_lower ho0 (Qe (by repeat (first|(with_reducible first|exact HB.out|apply Q2|apply Q0|apply Q5)|exact HB.out))));have n2_:=Q1.mk (Qj (by repeat (first|(with_reducible first|exact HB.out|apply Q2|apply Q0|apply Q5)|exact HB.out)) hb);clear Jc HB;have Jc:=n0_;have Gz:=n1_;have HB:=n2_;clear n0_ n1_ n2_;(try clear hb);(try clear hb2);(try clear hk);(try clear hi);(try clear ho0);obtain ⟨qn6,qol,qoD⟩:=Kd.V_slice Jc.out;subst qoD;obtain ⟨qkH,qk1,qoE⟩:=Kd.R_slice Gz.out;subst qoE)|((with_reducible refine Qp (f:=27) rfl ?_);refine Yd (some 35) rfl rfl Try.func27 (by kernel_rfl) rfl #[.slice qn6 Wg.length qol,.slice qkH WH.length qk1] rfl (by (try simp only [List.map_toArray,List.map_cons,List.map_nil]);first|done|rfl|(simp only [List.length_drop,List.length_take];rfl)) ?_;(with_reducible refine (QT.calls k _ _ Wg _ _ WH false _ ?side1 ?side2 ?side3 ?side4 A6.out).mono ?_);(case side1=>repeat (first|exact (Kd.V_reads' Jc.out).2.2|(with_reducible refine Kd.C_alloc ?_ _)|(with_reducible refine Kd.C_drewN ?_ _)|(with_reducible refine Kd.C_drew ?_)));(case side2=>exact (Kd.V_reads' Jc.out).2.1);(case side3=>repeat (first|exact (Kd.R_reads' Gz.out).2.2|(with_reducible refine Kd.C_alloc ?_ _)|(with_reducible refine Kd.C_drewN ?_ _)|(with_reducible refine Kd.C_drew ?_)));(case side4=>exact (Kd.R_reads' Gz.out).2.1);rintro e w' ⟨rfl,⟨nd,rfl⟩⟩;refine ⟨_,rfl,?_⟩))
 go_ret
 exact ⟨by first|rfl|(simp [Qs,Qt]<;>rfl)|(simp [*,Qs,Qt]<;>rfl),by repeat (first|(with_reducible first|exact HB.out|apply Q2|apply Q0|apply Q5)|exact HB.out)⟩
end
section
def bef:List Int→List Int→Bool
 | [],[]=>false
 | [],_::_=>true
 | _::_,[]=>false
 | x::xs,y::ys=>if x=y then bef xs ys else decide (x<y)
theorem qhp:∀ a:List Int,bef a a=false
 | []=>rfl
 | x::xs=>by rw [bef,if_pos rfl];exact qhp xs
theorem qeu:∀ a b:List Int,bef a b=true→bef b a=false
 | [],[],_=>rfl
 | [],_::_,_=>rfl
 | _::_,[],h=>by simp [bef] at h
 | x::xs,y::ys,h=>by
  rw [bef] at h ⊢
  by_cases c:x=y
  ·
   rw [if_pos c] at h;rw [if_pos c.symm];exact qeu xs ys h
  ·
   rw [if_neg c,decide_eq_true_eq] at h
   rw [if_neg (fun e=>c e.symm)]
   exact decide_eq_false (by omega)
theorem qcK:∀ a b c:List Int,bef a b=true→bef b c=true→bef a c=true
 | [],[],_,h,_=>by simp [bef] at h
 | [],_::_,[],_,h=>by simp [bef] at h
 | [],_::_,_::_,_,_=>rfl
 | _::_,[],_,h,_=>by simp [bef] at h
 | _::_,_::_,[],_,h=>by simp [bef] at h
 | x::xs,y::ys,z::zs,h,k=>by
  rw [bef] at h k ⊢
  by_cases c:x=y
  ·
   rw [if_pos c] at h
   subst c
   by_cases d:x=z
   ·
    rw [if_pos d] at k ⊢;exact qcK xs ys zs h k
   ·
    rw [if_neg d] at k ⊢;exact k
  ·
   rw [if_neg c,decide_eq_true_eq] at h
   by_cases d:y=z
   ·
    rw [if_pos d] at k;subst d;rw [if_neg c];exact decide_eq_true h
   ·
    rw [if_neg d,decide_eq_true_eq] at k;rw [if_neg (by omega)]
    exact decide_eq_true (by omega)
theorem qcJ:∀ a b:List Int,bef a b=false→bef b a=false→a=b
 | [],[],_,_=>rfl
 | [],_::_,h,_=>by simp [bef] at h
 | _::_,[],_,h=>by simp [bef] at h
 | x::xs,y::ys,h,k=>by
  rw [bef] at h k
  by_cases c:x=y
  ·
   rw [if_pos c] at h;rw [if_pos c.symm] at k
   rw [c,qcJ xs ys h k]
  ·
   rw [if_neg c,decide_eq_false_iff_not] at h
   rw [if_neg (fun e=>c e.symm),decide_eq_false_iff_not] at k
   omega
theorem qjv (x y:Int) (h:x<y) (xs ys:List Int):∀ so:List Int,bef (so++x::xs) (so++y::ys)=true
 | []=>by rw [List.nil_append,List.nil_append,bef,if_neg (by omega)];exact decide_eq_true h
 | z::so=>by rw [List.cons_append,List.cons_append,bef,if_pos rfl];exact qjv x y h xs ys so
def ris (n:Int):Int→List Int→Bool
 | _,[]=>true
 | lo,x::xs=>decide (lo≤x∧x<n)&&ris n (x+1) xs
theorem JE {n lo x:Int} {xs:List Int}:ris n lo (x::xs)=true↔lo≤x∧x<n∧ris n (x+1) xs=true:=by
 rw [ris,Bool.and_eq_true,decide_eq_true_eq,and_assoc]
theorem qgR {n:Int}:∀ {t:List Int} {lo lo':Int},lo'≤lo→ris n lo t=true→ris n lo' t=true
 | [],_,_,_,_=>rfl
 | x::xs,lo,lo',h,k=>by
  rw [JE] at k ⊢
  exact ⟨by omega,k.2⟩
theorem qhX {n:Int}:∀ {t:List Int} {lo:Int},lo≤n→ris n lo t=true→(t.length:Int)≤n-lo
 | [],lo,h,_=>by simp;omega
 | x::xs,lo,h,k=>by
  rw [JE] at k
  have:=qhX (by omega) k.2.2
  rw [List.length_cons]
  push_cast
  omega
theorem UR {n:Int}:∀ {t:List Int} {lo:Int},ris n lo t=true → ∀ x∈t,lo≤x∧x<n
 | [],_,_,x,hx=>by simp at hx
 | y::ys,lo,k,x,hx=>by
  rw [JE] at k
  rcases List.mem_cons.1 hx with rfl|hx
  ·
   exact ⟨k.1,k.2.1⟩
  ·
   have:=UR k.2.2 x hx
   exact ⟨by omega,this.2⟩
section
variable (V:List Int→Int × Int)
def bet (q p:List Int):Prop:=(V p).1<(V q).1∨((V q).1=(V p).1∧((V q).2<(V p).2∨((V q).2=(V p).2∧(q.length<p.length∨(q.length=p.length∧bef q p=true)))))
theorem qa2 (p:List Int):¬bet V p p:=by
 unfold bet
 rw [qhp]
 simp
theorem qim {a b c:List Int} (h:bet V a b) (k:bet V b c):bet V a c:=by
 unfold bet at h k ⊢
 rcases h with h|⟨h1,h|⟨h2,h|⟨h3,hb⟩⟩⟩<;>rcases k with k|⟨k1,k|⟨k2,k|⟨k3,kb⟩⟩⟩ <;>
  first
  | exact .inl (by omega)
  | exact .inr ⟨by omega,.inl (by omega)⟩
  | exact .inr ⟨by omega,.inr ⟨by omega,.inl (by omega)⟩⟩
  | exact .inr ⟨by omega,.inr ⟨by omega,.inr ⟨by omega,qcK _ _ _ hb kb⟩⟩⟩
theorem qil {a b:List Int} (h:¬bet V a b) (k:¬bet V b a):a=b:=by
 have e1:(V a).1=(V b).1:=Int.le_antisymm (Int.not_lt.1 (fun x=>h (.inl x))) (Int.not_lt.1 (fun x=>k (.inl x)))
 have e2:(V a).2=(V b).2:=Int.le_antisymm (Int.not_lt.1 (fun x=>k (.inr ⟨e1.symm,.inl x⟩))) (Int.not_lt.1 (fun x=>h (.inr ⟨e1,.inl x⟩)))
 have e3:a.length=b.length:=Nat.le_antisymm (Nat.not_lt.1 (fun x=>k (.inr ⟨e1.symm,.inr ⟨e2.symm,.inl x⟩⟩))) (Nat.not_lt.1 (fun x=>h (.inr ⟨e1,.inr ⟨e2,.inl x⟩⟩)))
 refine qcJ a b ?_ ?_
 ·
  cases e:bef a b with
  | false=>rfl
  | true=>exact absurd (.inr ⟨e1,.inr ⟨e2,.inr ⟨e3,e⟩⟩⟩) h
 ·
  cases e:bef b a with
  | false=>rfl
  | true=>exact absurd (.inr ⟨e1.symm,.inr ⟨e2.symm,.inr ⟨e3.symm,e⟩⟩⟩) k
structure Inv (P:List Int→Prop) (st:BSt):Prop where
 mem:P st.ch
 val:V st.ch=(st.sp,st.lo)
 best:∀ q,P q → ¬bet V q st.ch
theorem Inv.iff {P Q:List Int→Prop} {st:BSt} (h:Inv V P st) (e:∀ q,P q↔Q q):Inv V Q st:=⟨(e _).1 h.mem,h.val,fun q hq=>h.best q ((e q).2 hq)⟩
def RR (a b:List Int):Prop:=a.length<b.length∨(a.length=b.length∧bef a b=true)
end
section
variable (cells:List Z7) (sets:List Int)
def oxP (so:List Int):Int:=so.foldl (fun x i=>Go.bits .or .i64 x (rd sets i)) 0
theorem qmE (so:List Int) (i:Int):oxP sets (so++[i])=Go.bits .or .i64 (oxP sets so) (rd sets i):=by simp [oxP]
def vP (so:List Int):Int × Int:=QN.s cells (oxP sets so)
theorem qmw {P:List Int→Prop} {st:BSt} (so:List Int) (h:Inv (vP cells sets) P st) (hR:∀ q,P q→RR q so):Inv (vP cells sets) (fun q=>P q∨q=so) (Qh.upd cells so (oxP sets so) st):=by
 obtain ⟨h1,h2,h3⟩:=h
 have e:QN.s cells (oxP sets so)=vP cells sets so:=rfl
 unfold Qh.upd
 rw [e]
 by_cases c:st.sp<(vP cells sets so).1∨((vP cells sets so).1=st.sp∧(vP cells sets so).2<st.lo)
 ·
  rw [if_pos c]
  refine ⟨.inr rfl,rfl,fun q hq => ?_⟩
  dsimp only
  rcases hq with hq|rfl
  ·
   have:=h3 q hq
   unfold bet at this ⊢
   rw [h2] at this
   dsimp only at this
   omega
  ·
   exact qa2 _ _
 ·
  rw [if_neg c]
  refine ⟨.inl h1,h2,fun q hq => ?_⟩
  rcases hq with hq|rfl
  ·
   exact h3 q hq
  ·
   have r:=hR _ h1
   unfold RR at r
   unfold bet
   rw [h2]
   dsimp only
   rcases r with r|⟨r,b⟩
   ·
    omega
   ·
    rw [qeu _ _ b];simp only [Bool.false_eq_true,and_false,or_false]
    omega
theorem qgg (many:Nat):∀ (d:Nat) (so:List Int) (st:BSt) (P:List Int→Prop),d≤sets.length→so.length<many→Inv (vP cells sets) P st →
  (∀ q,P q → ∀ t:List Int,t≠[]→ris (sets.length:Int) ((sets.length-d:Nat):Int) t=true→(so++t).length=many→RR q (so++t)) →
  Inv (vP cells sets) (fun q=>P q ∨ ∃ t:List Int,t≠[]∧ris (sets.length:Int) ((sets.length-d:Nat):Int) t=true∧(so++t).length=many∧q=so++t) (Qh.lp cells sets (many:Int) d so (oxP sets so) st)
 | 0,so,st,P,_,_,hI,_=>by
  rw [Qh.lp]
  refine hI.iff _ (fun q=>⟨.inl,fun h => ?_⟩)
  rcases h with h|⟨t,ht,hr,_,_⟩
  ·
   exact h
  ·
   match t,ht with
   | x::xs,_ =>
    rw [JE] at hr
    omega
 | d+1,so,st,P,hd,hso,hI,hR=>by
  obtain ⟨i,hi⟩:∃ i:Nat,i=sets.length-(d+1):=⟨_,rfl⟩
  have hi1:sets.length-d=i+1:=by omega
  have hi2:i<sets.length:=by omega
  rw [Qh.lp,← hi,← qmE]
  rw [← hi] at hR
  have hd':d≤sets.length:=by omega
  have A:Inv (vP cells sets) (fun q=>P q ∨ ∃ t:List Int,ris (sets.length:Int) ((i+1:Nat):Int) t=true∧(so++(i:Int)::t).length=many∧q=so++(i:Int)::t)
    (if (((so.length+1:Nat):Int))=(many:Int) then Qh.upd cells (so++[(i:Int)]) (oxP sets (so++[(i:Int)])) st else Qh.lp cells sets (many:Int) d (so++[(i:Int)]) (oxP sets (so++[(i:Int)])) st):=by
   by_cases c:(((so.length+1:Nat):Int))=(many:Int)
   ·
    rw [if_pos c];refine (qmw cells sets (so++[(i:Int)]) hI (fun q hq=>hR q hq [(i:Int)] (by simp) (by rw [JE];exact ⟨Int.le_refl _,by omega,rfl⟩) (by simp;omega))).iff _ (fun q => ?_)
    constructor
    ·
     rintro (h|h)
     ·
      exact .inl h
     ·
      exact .inr ⟨[],rfl,by simp;omega,h⟩
    ·
     rintro (h|⟨t,hr,hl,h⟩)
     ·
      exact .inl h
     ·
      have:t=[]:=by
       have hl2:t.length=0:=by simp at hl;omega
       exact List.length_eq_zero_iff.1 hl2
      subst this
      exact .inr h
   ·
    rw [if_neg c]
    have hl0:(so++[(i:Int)]).length<many:=by simp;omega
    have:=qgg many d (so++[(i:Int)]) st P hd' hl0 hI (fun q hq t ht hr hl=>by
     rw [List.append_assoc] at hl ⊢;refine hR q hq ((i:Int)::t) (by simp) ?_ hl;rw [hi1] at hr;rw [JE]
     exact ⟨Int.le_refl _,by omega,by push_cast at hr;exact hr⟩)
    refine this.iff _ (fun q => ?_);rw [hi1]
    constructor
    ·
     rintro (h|⟨t,ht,hr,hl,h⟩)
     ·
      exact .inl h
     ·
      rw [List.append_assoc] at h hl
      exact .inr ⟨t,hr,hl,h⟩
    ·
     rintro (h|⟨t,hr,hl,h⟩)
     ·
      exact .inl h
     ·
      refine .inr ⟨t,?_,hr,by rw [List.append_assoc];exact hl,by rw [List.append_assoc];exact h⟩;rintro rfl
      simp at hl
      omega
  refine (qgg many d so _ _ hd' hso A (fun q hq t ht hr hl => ?_)).iff _ (fun q => ?_)
  ·
   rw [hi1] at hr
   rcases hq with hq|⟨t',hr',hl',rfl⟩
   ·
    exact hR q hq t ht (qgR (by push_cast;omega) hr) hl
   ·
    match t,ht with
    | y::ys,_ =>
     rw [JE] at hr
     exact .inr ⟨by omega,qjv _ _ (by push_cast at hr;omega) _ _ _⟩
  ·
   rw [hi1]
   constructor
   ·
    rintro ((h|⟨t,hr,hl,h⟩)|⟨t,ht,hr,hl,h⟩)
    ·
     exact .inl h
    ·
     exact .inr ⟨(i:Int)::t,by simp,by rw [JE];exact ⟨Int.le_refl _,by omega,by push_cast at hr;exact hr⟩,hl,h⟩
    ·
     exact .inr ⟨t,ht,qgR (by push_cast;omega) hr,hl,h⟩
   ·
    rintro (h|⟨t,ht,hr,hl,h⟩)
    ·
     exact .inl (.inl h)
    ·
     match t,ht with
     | x::xs,_ =>
      rw [JE] at hr
      by_cases c:x=(i:Int)
      ·
       subst c
       exact .inl (.inr ⟨xs,by push_cast;exact hr.2.2,hl,h⟩)
      ·
       exact .inr ⟨x::xs,by simp,by rw [JE];exact ⟨by push_cast;omega,hr.2⟩,hl,h⟩
theorem qcL:∀ (k many:Nat) (st:BSt),1≤many→Inv (vP cells sets) (fun q=>ris (sets.length:Int) 0 q=true∧q.length<many) st →
  Inv (vP cells sets) (fun q=>ris (sets.length:Int) 0 q=true∧q.length<many+k) (Qh.tries cells sets k many st)
 | 0,many,st,_,h=>h
 | k+1,many,st,hm,h=>by
  rw [Qh.tries,Qh.cz,if_neg (by simp;omega)]
  have h2:=qgg cells sets many sets.length [] st _ (Nat.le_refl _) (by simp;omega) h (fun q hq t ht hr hl=>by
   rw [List.nil_append] at hl ⊢
   exact .inl (by omega))
  have h3:=qcL k (many+1) (Qh.lp cells sets (many:Int) sets.length [] (oxP sets []) st) (by omega) (h2.iff _ (fun q=>by
   rw [Nat.sub_self]
   constructor
   ·
    rintro (⟨h,k⟩|⟨t,ht,hr,hl,rfl⟩)
    ·
     exact ⟨h,by omega⟩
    ·
     exact ⟨hr,by simp only [List.nil_append] at hl ⊢;omega⟩
   ·
    rintro ⟨h,k⟩
    by_cases c:q.length<many
    ·
     exact .inl ⟨h,c⟩
    ·
     refine .inr ⟨q,?_,h,by simp;omega,rfl⟩;rintro rfl
     simp at c
     omega))
  refine h3.iff _ (fun q => ?_)
  have:many+1+k=many+(k+1):=by omega
  rw [this]
theorem qgV (M:Nat):Inv (vP cells sets) (fun q=>ris (sets.length:Int) 0 q=true∧q.length≤M) (Qh.tries cells sets (M+1) 0 ⟨[],0,0⟩):=by
 have hz:QN.s cells 0=(0,0):=qbG cells 0 0 0
 have e:Qh.tries cells sets (M+1) 0 ⟨[],0,0⟩=Qh.tries cells sets M 1 ⟨[],0,0⟩:=by
  rw [Qh.tries,Qh.cz,if_pos (by simp),Qh.upd,hz,if_neg (by simp)]
 rw [e]
 refine (qcL cells sets M 1 ⟨[],0,0⟩ (Nat.le_refl _) ⟨⟨rfl,by simp⟩,hz,fun q hq => ?_⟩).iff _ (fun q => ?_)
 ·
  have:q=[]:=List.length_eq_zero_iff.1 (by omega)
  subst this
  exact qa2 _ _
 ·
  constructor
  ·
   rintro ⟨h,k⟩;exact ⟨h,by omega⟩
  ·
   rintro ⟨h,k⟩;exact ⟨h,by omega⟩
end
theorem qjw {V:List Int→Int × Int} {P:List Int→Prop} {a b:List Int} (ha:P a) (hb:P b) (h1:∀ q,P q → ¬bet V q a) (h2:∀ q,P q → ¬bet V q b):a=b:=qil V (h2 a ha) (h1 b hb)
end
section
attribute [local go_sem] Yr Yt YM YN Yi Yj Ys Yu
end
section
attribute [local go_sem] Yr Yt YM YN Yi Yj Ys Yu
end
section
attribute [local go_sem] Yr Yt YM YN Yi Yj Ys Yu
attribute [local go_sem high] qjD
end
end Go.Proofs.Ytmhomdohhihlcaa.P
namespace Go.Proofs.Ytmhomdohhihlcaa.P
open Go.RowKit Go.ChangeShapes Go.WideShapes Go.Proofs.YtmhomdohhihlcaaW.PrintWords Go.Proofs.YtmhomdohhihlcaaW.PrintLast Go.Proofs.YtmhomdohhihlcaaW.PrintMore
def W6 {α:Type} (d:Kd α) (t:TypeId) (p:α→Prop):Prop:=∀ (H:Type) (enc:TypeId × Value→H) (w:World) (fuel:Nat) (cs:List Value) (x:DataW H × List MemPlace),
 DataW.trod enc Try.prog w 0 (fun _=>true) true fuel t cs=some x → ∃ a,d.K w a cs∧p a
def Wf (n:Int):Prop:=(Lit.int .i64 n).wf=true
theorem qiK:W6 (Kd.int .i64) 3 Wf:=fun H enc w fuel cs x h=>by
 obtain ⟨n,rfl,_,hw⟩:=DataW.trod_int Try.underlying3 h
 exact ⟨n,rfl,hw⟩
theorem qfk {α:Type} {d:Kd α} {e e' t:TypeId} {p:α→Prop} (h:W6 d e p) (ht:Try.prog.underlying t=some (.slice e)) (hc:Try.prog.cellsOf e=d.sz):W6 (Kd.slice e' d) t (fun xs => ∀ x∈xs,p x):=fun H enc w fuel cs x hf=>by
 rcases Deep.open_slice ht hf with ⟨rfl,_⟩|⟨a,len,cap,m,n,D,Pl,rfl,_,hl,hm,hmm,_,hx⟩
 ·
  exact ⟨[],⟨none,0,rfl,Nat.le_refl _,Kd.C_nil d w⟩,fun x hx=>by simp at hx⟩
 ·
  have each:∀ i,i<len → ∃ z:α,(∃ c,c.length=d.sz∧d.K w z c ∧ ∀ j u,c[j]? = some u→w.cell? (a.add (i*d.sz+j))=some u)∧p z:=fun i hi=>by
   obtain ⟨cs',h1,h2⟩:=hx i (by simp only [if_true] at hmm;omega)
   obtain ⟨z,hz,hp⟩:=h H enc w n cs' _ h2
   obtain ⟨_,hcl,hat⟩:=World.cells?_some h1
   refine ⟨z,⟨cs',d.K_len hz,hz,fun j u hu => ?_⟩,hp⟩
   have hj:j<cs'.length:=(List.getElem?_eq_some_iff.1 hu).1
   rw [d.K_len hz] at hj
   have hj':j<Try.prog.cellsOf e:=by rw [hc];exact hj
   have h3:=hat j hj'
   rw [Deep.add_add,hc] at h3
   rw [h3]
   exact hu
  by_cases h0:len=0
  ·
   subst h0
   exact ⟨[],⟨some a,cap,rfl,by simp,⟨rfl,by simp,fun hh=>by simp at hh⟩⟩,fun x hx=>by simp at hx⟩
  ·
   obtain ⟨z0,_⟩:=each 0 (by omega)
   have inst:Inhabited α:=⟨z0⟩
   obtain ⟨f,hfz⟩:=Deep.choose_lt each
   have hmx:cap≤9223372036854775807:=by unfold maxLen at hm;omega
   refine ⟨(List.range len).map f,⟨some a,cap,by simp,by simpa using hl,⟨rfl,by simp;omega,fun _=>⟨a,rfl,fun j q hj => ?_⟩⟩⟩,fun x hx => ?_⟩
   ·
    have hj2:j<len:=by have:=(List.getElem?_eq_some_iff.1 hj).1;simpa using this
    rw [List.getElem?_map,List.getElem?_range hj2] at hj
    injection hj with hj
    subst hj;obtain ⟨c,c1,c2,c3⟩:=(hfz j hj2).1
    exact ⟨c,c1,c2,c3⟩
   ·
    obtain ⟨i,hi,rfl⟩:=List.mem_map.1 hx
    exact (hfz i (List.mem_range.1 hi)).2
theorem c3:Try.prog.cellsOf 3=1:=by kernel_rfl
theorem c25:Try.prog.cellsOf 25=2:=by kernel_rfl
theorem qqh:Try.prog.cellsOf 136=2:=by kernel_rfl
theorem c37:Try.prog.cellsOf 37=1:=by kernel_rfl
theorem c32:Try.prog.cellsOf 32=1:=by kernel_rfl
theorem c63:Try.prog.cellsOf 63=1:=by kernel_rfl
theorem c44:Try.prog.cellsOf 44=1:=by kernel_rfl
theorem c45:Try.prog.cellsOf 45=1:=by kernel_rfl
theorem c39:Try.prog.cellsOf 39=5:=by kernel_rfl
theorem c47:Try.prog.cellsOf 47=3:=by kernel_rfl
theorem c23:Try.prog.cellsOf 23=2:=by kernel_rfl
theorem qz2 {α:Type} {l:List α} (h:l.length=2):∃ a b,l=[a,b]:=by
 match l,h with
 | [a,b],_=>exact ⟨a,b,rfl⟩
theorem qh0 {α:Type} {l:List α} {i:Nat} {o:Option α} (hi:i<l.length) (h:o=l[i]?):∃ y,o=some y:=⟨l[i],by rw [h,List.getElem?_eq_getElem hi]⟩
def qoh (s:Z7):Prop:=Wf s.f0∧Wf s.f1
theorem qiJ:W6 UA 136 qoh:=fun H enc w fuel cs x h=>by
 obtain ⟨xs,n,_,_,hl,hxl,hf⟩:=DataW.trod_struct Try.underlying136 h
 rw [qqh] at hl
 obtain ⟨a,b,rfl⟩:=qz2 hl
 have h0:DataW.trod enc Try.prog w 0 (fun _=>true) true n 3 (([a,b].drop 0).take (Try.prog.cellsOf 3))=xs[0]?:=hf 0 _ rfl
 have h1:DataW.trod enc Try.prog w 0 (fun _=>true) true n 3 (([a,b].drop 1).take (Try.prog.cellsOf 3))=xs[1]?:=hf 1 _ rfl
 rw [c3] at h0 h1
 have hx2:xs.length=2:=hxl
 obtain ⟨y0,e0⟩:=qh0 (by omega) h0
 obtain ⟨y1,e1⟩:=qh0 (by omega) h1
 obtain ⟨n0,q0,_,g0⟩:=DataW.trod_int Try.underlying3 e0
 obtain ⟨n1,q1,_,g1⟩:=DataW.trod_int Try.underlying3 e1
 replace q0:[a]=[Value.int .i64 n0]:=q0
 replace q1:[b]=[Value.int .i64 n1]:=q1
 injection q0 with q0
 injection q1 with q1
 subst q0 q1
 exact ⟨⟨n0,n1⟩,qmx w ⟨n0,n1⟩,g0,g1⟩
theorem qfi:W6 (Kd.slice 136 UA) 62 (fun l => ∀ x∈l,qoh x):=qfk qiJ Try.underlying62 qqh
section
variable {H:Type} {enc:TypeId × Value→H} {W:World} {d:DataW H} {ps:List MemPlace}
theorem qij {α:Type} {k:Kd α} {t e':TypeId} {p:List α→Prop} (hr:W6 (Kd.slice e' k) t p) {a:Option Addr} {len cap:Nat} (h:DataW.Trod enc Try.prog W 0 (fun _=>true) true t (.slice a len cap) d ps) :
  ∃ l:List α,len=l.length∧Kd.C k W a l.length l∧l.length≤cap∧p l:=by
 obtain ⟨fuel,hf⟩:=h
 obtain ⟨l,⟨A,c,e1,hc,hC⟩,hp⟩:=hr H enc W fuel _ _ hf
 replace e1:[Value.slice a len cap]=[Value.slice A l.length c]:=e1
 injection e1 with e1
 injection e1 with e1 e2 e3
 subst e1 e2 e3
 exact ⟨l,rfl,hC,hc,hp⟩
theorem qet {t e:TypeId} {a:Option Addr} {len cap:Nat} {ts:List TypeId} {ds:List (DataW H)} {j:Nat} {B:Nat}
  (hsz:(DataW.weightsEach Try.prog ts ds).all (· ≤ reachBytes)=true) (ht:ts[j]? = some t) (hd:ds[j]? = some d) (hu:Try.prog.underlying t=some (.slice e)) (hB:Try.prog.bytesOf e=B)
  (h:DataW.Trod enc Try.prog W 0 (fun _=>true) true t (.slice a len cap) d ps):len*B≤140737488351232:=by
 obtain ⟨fuel,hf⟩:=h
 rcases Deep.open_slice hu hf with ⟨hcs,_⟩|⟨a',len',cap',m,n,D,Pl,hcs,_,hl,_,hmm,hx,_⟩
 ·
  replace hcs:[Value.slice a len cap]=[Value.slice none 0 0]:=hcs
  injection hcs with hcs
  injection hcs with _ h2 _
  subst h2
  simp
 ·
  replace hcs:[Value.slice a len cap]=[Value.slice (some a') len' cap']:=hcs
  injection hcs with hcs
  injection hcs with _ h2 _
  subst h2
  injection hx with hx _
  rw [hx] at hd
  have z:=sized_slice hsz ht hd hu
  rw [hB] at z
  have hrb:reachBytes=140737488351232:=by decide
  rw [hrb] at z
  simp only [List.length_map,List.length_range] at z
  exact Nat.le_trans (Nat.mul_le_mul_right _ (by omega)) z
end
end Go.Proofs.Ytmhomdohhihlcaa.P
namespace Go.Proofs.Ytmhomdohhihlcaa.P
open Go.RowKit Go.Proofs.YtmhomdohhihlcaaW.PrintWords Go.Proofs.YtmhomdohhihlcaaW.PrintLast Go.Proofs.YtmhomdohhihlcaaW.PrintMore
section
theorem OG (a b c:Int):Ya.f a b c=some (wi a b c):=by
 unfold Ya.f wi
 by_cases h:b≤a
 ·
  rw [if_pos h];simp [h]
 ·
  rw [if_neg h];simp [h]
def sp (a b h:Int):Bool:=decide (0≤a∧a≤b∧b≤h)
theorem wr1 (i n:Nat) (h:i<n) (hn:(n:Int)≤9223372036854775807):wrap64 ((i:Int)+1)=((i+1:Nat):Int):=by unfold wrap64;omega
end
section
theorem rdB (l:List Int) (i:Nat) (h:i<l.length):rd l (i:Int)=l[i]:=by simp [rd,List.getD_eq_getElem?_getD,List.getElem?_eq_getElem h]
theorem qpi (l:List (List Int)) (i:Nat) (h:i<l.length):Y5 l (i:Int)=l[i]:=by simp [Y5,List.getD_eq_getElem?_getD,List.getElem?_eq_getElem h]
theorem qkp (l:List Z7) (i:Nat) (h:i<l.length):Zh l (i:Int)=l[i]:=by simp [Zh,List.getD_eq_getElem?_getD,List.getElem?_eq_getElem h]
theorem qas (n:Int) (h0:0≤n) (h1:n<2 ^ 62):IntKind.i64.wrap n=n:=by
 have e:(2:Int) ^ 62=4611686018427387904:=by decide
 rw [e] at h1
 rw [Yn]
 unfold wrap64
 omega
theorem orN (a b:Nat) (ha:a<2 ^ 62) (hb:b<2 ^ 62):Go.bits .or .i64 (a:Int) (b:Int)=((a ||| b:Nat):Int):=(bits_nat .i64 62 (by decide) qas a b ha hb).2
theorem shrN (m i:Nat) (hi:i≤62):shr .i64 (m:Int) (i:Int)=((m / 2 ^ i:Nat):Int):=by
 unfold shr
 rw [Int.toNat_natCast,Nat.min_eq_left (by show i≤64;omega)]
 push_cast
 rfl
theorem bitN (m i:Nat) (hm:m<2 ^ 62) (hi:i≤62):(Go.bits .and .i64 (shr .i64 (m:Int) (i:Int)) 1==1)=m.testBit i:=by
 rw [shrN m i hi]
 have h1:m / 2 ^ i<2 ^ 62:=Nat.lt_of_le_of_lt (Nat.div_le_self _ _) hm
 have h2:=(bits_nat .i64 62 (by decide) qas (m / 2 ^ i) 1 h1 (by decide)).1
 rw [show ((1:Nat):Int)=1 from rfl] at h2
 rw [h2,Nat.and_one_is_mod,Nat.testBit_eq_decide_div_mod_eq]
 by_cases c:m / 2 ^ i % 2=1
 ·
  rw [c,decide_eq_true rfl];rfl
 ·
  rw [decide_eq_false c,beq_eq_false_iff_ne]
  intro e
  exact c (by omega)
theorem shlN (c:Nat) (hc:c≤61):shl .i64 1 (c:Int)=((2 ^ c:Nat):Int):=by
 unfold shl
 rw [Int.toNat_natCast,Nat.min_eq_left (by show c≤64;omega),Int.one_mul]
 have e:(2:Int) ^ c=((2 ^ c:Nat):Int):=by push_cast;rfl
 rw [e]
 refine qas _ (Int.natCast_nonneg _) ?_
 have:2 ^ c<2 ^ 62:=Nat.pow_lt_pow_right (by decide) (by omega)
 exact_mod_cast this
def mk:Nat→List Int→Nat
 | acc,[]=>acc
 | acc,c::cs=>mk (acc ||| 2 ^ c.toNat) cs
theorem qn0 (m:Nat) (hm:m≤12):∀ (l:List Int) (lo:Int) (acc:Nat),0≤lo→ris (m:Int) lo l=true→acc<2 ^ 12→mk acc l<2 ^ 12
 | [],_,_,_,_,h=>h
 | c::cs,lo,acc,h0,hr,h=>by
  rw [JE] at hr
  refine qn0 m hm cs (c+1) _ (by omega) hr.2.2 (Nat.or_lt_two_pow h (Nat.pow_lt_pow_right (by decide) (by omega)))
theorem qgj:∀ (l:List Int) (acc j:Nat),(∀ x∈l,0≤x)→(mk acc l).testBit j=(acc.testBit j||decide ((j:Int)∈l))
 | [],acc,j,_=>by simp [mk]
 | c::cs,acc,j,h=>by
  have h0:=h c (by simp)
  rw [mk,qgj cs _ j (fun x hx=>h x (by simp [hx])),Nat.testBit_or,Nat.testBit_two_pow,Bool.or_assoc]
  congr 1
  by_cases e:c=(j:Int)
  ·
   subst e
   simp
  ·
   have e2:¬(c.toNat=j):=by omega
   have e3:¬((j:Int)=c):=fun x=>e x.symm
   simp [e2,e3]
theorem qhY (m:Nat) (hm:m≤12):∀ (l:List Int) (last:Int) (acc:Nat),-1≤last→acc<2 ^ 12→Qh.rowf (m:Int) l last (acc:Int)=if ris (m:Int) (last+1) l=true then some ((mk acc l:Nat):Int) else none
 | [],last,acc,_,_=>by rw [Qh.rowf,ris,if_pos rfl];rfl
 | c::cs,last,acc,h0,ha=>by
  rw [Qh.rowf]
  by_cases e:wi c (last+1) ((m:Int)-1)=true
  ·
   obtain ⟨e0,e1⟩:=Ox.1 e
   obtain ⟨q,rfl⟩:∃ q:Nat,c=(q:Int):=⟨c.toNat,by omega⟩
   have hq:q≤11:=by omega
   have hp:2 ^ q<2 ^ 12:=Nat.pow_lt_pow_right (by decide) (by omega)
   have b1:acc<2 ^ 62:=Nat.lt_trans ha (by decide)
   have b2:2 ^ q<2 ^ 62:=Nat.lt_trans hp (by decide)
   rw [if_pos e,shlN q (by omega),orN acc (2 ^ q) b1 b2,qhY m hm cs (q:Int) _ (by omega) (Nat.or_lt_two_pow ha hp)]
   have e2:ris (m:Int) (last+1) ((q:Int)::cs)=ris (m:Int) ((q:Int)+1) cs:=by
    rw [ris,decide_eq_true (by omega),Bool.true_and]
   rw [e2,mk,Int.toNat_natCast]
  ·
   rw [if_neg e]
   have e2:ris (m:Int) (last+1) (c::cs)=false:=by
    rw [ris,decide_eq_false,Bool.false_and];intro h
    exact e (Ox.2 ⟨h.1,by omega⟩)
   rw [e2,if_neg (by decide)]
theorem qbF (m:Nat) (hm:m≤12):∀ (l1:List (List Int)),Qh.rows (m:Int) l1=if l1.all (ris (m:Int) 0)=true then some (l1.map fun l=>((mk 0 l:Nat):Int)) else none
 | []=>by rw [Qh.rows];rfl
 | l::ls=>by
  have h:=qhY m hm l (-1) 0 (by decide) (by decide)
  rw [show (-1:Int)+1=0 from rfl,show ((0:Nat):Int)=0 from rfl] at h
  rw [Qh.rows,h,qbF m hm ls,List.all_cons]
  cases ris (m:Int) 0 l<;>cases ls.all (ris (m:Int) 0)<;>simp
theorem qdJ:∀ (l0:List Z7) (b:Bool),Qh.okc l0 b=(b&&l0.all fun c=>wi c.f0 0 10000&&wi c.f1 0 10000)
 | [],b=>by simp [Qh.okc]
 | c::cs,b=>by rw [Qh.okc,qdJ cs,List.all_cons];simp only [Bool.and_assoc]
def ws (p:Nat→Bool):Nat→List Z7→Int→Int→Int × Int
 | _,[],a,b=>(a,b)
 | i,c::cs,a,b=>if p i=true then ws p (i+1) cs (wrap64 (a+c.f0)) (wrap64 (b+c.f1)) else ws p (i+1) cs a b
theorem qav (x:Nat) (hx:x<2 ^ 62):∀ (cs:List Z7) (i:Nat) (a b:Int),i+cs.length≤62→QN.l (x:Int) i cs a b=ws (fun c=>x.testBit c) i cs a b
 | [],_,_,_,_=>rfl
 | c::cs,i,a,b,h=>by
  rw [List.length_cons] at h
  rw [QN.l,ws,bitN x i hx (by omega),qav x hx cs (i+1) _ _ (by omega),qav x hx cs (i+1) _ _ (by omega)]
def cov (l1:List (List Int)) (so:List Int) (c:Nat):Bool:=so.any fun i=>decide ((c:Int)∈Y5 l1 i)
def wv (l0:List Z7) (l1:List (List Int)) (so:List Int):Int × Int:=ws (cov l1 so) 0 l0 0 0
theorem qn1 (m:Nat) (hm:m≤12) (l1:List (List Int)) (hl:l1.all (ris (m:Int) 0)=true):∀ (so:List Int),(∀ i∈so,0≤i∧i<(l1.length:Int)) → ∀ x:Nat,x<2 ^ 12 →
  ∃ y:Nat,y<2 ^ 12∧so.foldl (fun x i=>Go.bits .or .i64 x (rd (l1.map fun l=>((mk 0 l:Nat):Int)) i)) (x:Int)=(y:Int) ∧ ∀ c:Nat,y.testBit c=(x.testBit c||cov l1 so c)
 | [],_,x,hx=>⟨x,hx,rfl,fun c=>by simp [cov]⟩
 | i::so,h,x,hx=>by
  obtain ⟨h0,h1⟩:=h i (by simp)
  obtain ⟨q,rfl⟩:∃ q:Nat,i=(q:Int):=⟨i.toNat,by omega⟩
  have hq:q<l1.length:=by omega
  have hr:=List.all_eq_true.1 hl l1[q] (List.getElem_mem hq)
  have hlt:=qn0 m hm l1[q] 0 0 (Int.le_refl _) hr (by decide)
  have e:rd (l1.map fun l=>((mk 0 l:Nat):Int)) (q:Int)=((mk 0 l1[q]:Nat):Int):=by rw [rdB _ q (by simpa using hq)];simp
  have b1:x<2 ^ 62:=Nat.lt_trans hx (by decide)
  have b2:mk 0 l1[q]<2 ^ 62:=Nat.lt_trans hlt (by decide)
  obtain ⟨y,y0,y1,y2⟩:=qn1 m hm l1 hl so (fun j hj=>h j (by simp [hj])) (x ||| mk 0 l1[q]) (Nat.or_lt_two_pow hx hlt)
  refine ⟨y,y0,?_,fun c => ?_⟩
  ·
   rw [List.foldl_cons,e,orN _ _ b1 b2];exact y1
  ·
   rw [y2 c,Nat.testBit_or,qgj l1[q] 0 c (fun z hz=>(UR hr z hz).1)]
   simp only [cov,List.any_cons,qpi l1 q hq,Nat.zero_testBit,Bool.false_or,Bool.or_assoc]
theorem qsi (l0:List Z7) (h12:l0.length≤12) (l1:List (List Int)) (hl:l1.all (ris (l0.length:Int) 0)=true) (so:List Int) (hs:ris (l1.length:Int) 0 so=true) :
  vP l0 (l1.map fun l=>((mk 0 l:Nat):Int)) so=wv l0 l1 so:=by
 obtain ⟨y,y0,y1,y2⟩:=qn1 l0.length h12 l1 hl so (UR hs) 0 (by decide)
 have e:oxP (l1.map fun l=>((mk 0 l:Nat):Int)) so=(y:Int):=y1
 unfold vP wv QN.s
 rw [e,qav y (Nat.lt_trans y0 (by decide)) l0 0 0 0 (by omega)]
 congr 1
 funext c
 rw [y2 c,Nat.zero_testBit,Bool.false_or]
theorem qkj (l:List Int) (c:Int) (hn:l.length≤9223372036854775807):∃ p,Ev (fun k=>Yo.f k l c) p∧decide (p≥0)=decide (c∈l):=by
 have loop:∀ (d i:Nat),i+d=l.length → ∃ p,Ev (fun k=>Yo.l0 k l c (i:Int)) p∧decide (p≥0)=decide (c∈l.drop i):=by
  intro d
  induction d with
  | zero =>
   intro i hi
   refine ⟨-1,Ev.step (f:=fun _=>some (-1)) (fun k => ?_) (Ev.now _),?_⟩
   ·
    simp only [Yo.l0];rw [if_neg (by omega)]
   ·
    rw [List.drop_eq_nil_of_le (by omega)];simp
  | succ d ih =>
   intro i hi
   have hlt:i<l.length:=by omega
   obtain ⟨p,hE,hp⟩:=ih (i+1) (by omega)
   have hr:=rdB l i hlt
   rw [List.drop_eq_getElem_cons hlt]
   by_cases e:l[i]=c
   ·
    refine ⟨(i:Int),Ev.step (f:=fun _=>some (i:Int)) (fun k => ?_) (Ev.now _),?_⟩
    ·
     simp only [Yo.l0];rw [if_pos (Int.ofNat_lt.2 hlt),if_pos (Int.natCast_nonneg i),hr,if_pos e]
    ·
     rw [e,decide_eq_true (Int.natCast_nonneg i),decide_eq_true (by simp)]
   ·
    have hw:=wr1 i l.length hlt (by omega);refine ⟨p,Ev.step (fun k => ?_) hE,?_⟩
    ·
     simp only [Yo.l0,hw];rw [if_pos (Int.ofNat_lt.2 hlt),if_pos (Int.natCast_nonneg i),hr,if_neg e]
    ·
     have e2:¬(c=l[i]):=fun x=>e x.symm
     rw [hp,decide_eq_decide,List.mem_cons]
     exact ⟨.inr,fun h=>h.resolve_left e2⟩
 obtain ⟨p,hE,hp⟩:=loop l.length 0 (by omega)
 exact ⟨p,hE,by rw [List.drop_zero] at hp;exact hp⟩
theorem qip (l0:List Z7) (h12:l0.length≤12) (l1:List (List Int)) (hl:∀ l∈l1,l.length≤9223372036854775807) (so:List Int) (hs:∀ i∈so,0≤i∧i<(l1.length:Int)) (hso:so.length≤9223372036854775807) :
  Ev (fun k=>Qq.f k l0 l1 so) (wv l0 l1 so):=by
 have inner:∀ (c:Nat) (x8 x9:Int) (R:Int × Int),c<l0.length →
   (∀ b:Bool,b=cov l1 so c→Ev (fun k=>if b=true then Qq.l0 k l0 l1 so (wrap64 (x8+(Zh l0 (c:Int)).f0)) (wrap64 (x9+(Zh l0 (c:Int)).f1)) ((c+1:Nat):Int) else Qq.l0 k l0 l1 so x8 x9 ((c+1:Nat):Int)) R) →
   ∀ (d j:Nat) (b:Bool),j+d=so.length→(b||(so.drop j).any fun i=>decide ((c:Int)∈Y5 l1 i))=cov l1 so c→Ev (fun k=>Qq.l1 k l0 l1 so x8 x9 (c:Int) b (j:Int)) R:=by
  intro c x8 x9 R hc hE d
  induction d with
  | zero =>
   intro j b hj hb
   rw [List.drop_eq_nil_of_le (by omega),List.any_nil,Bool.or_false] at hb
   have hw:=wr1 c l0.length hc (by omega)
   refine Ev.step (fun k => ?_) (hE b hb)
   simp only [Qq.l1,hw]
   rw [if_neg (by clear hw;omega)]
   cases b with
   | true=>rw [if_pos rfl,if_pos (Int.natCast_nonneg c),if_pos (Int.ofNat_lt.2 hc),if_pos rfl]
   | false=>rw [if_neg (by decide),if_neg (by decide)]
  | succ d ih =>
   intro j b hj hb
   have hlt:j<so.length:=by omega
   have hj1:j+1+d=so.length:=by omega
   have hr:=rdB so j hlt
   obtain ⟨g0,g1⟩:=hs so[j] (List.getElem_mem hlt)
   rw [List.drop_eq_getElem_cons hlt,List.any_cons] at hb
   have hw:=wr1 j so.length hlt (by omega)
   cases b with
   | true =>
    refine Ev.step (fun k => ?_) (ih (j+1) true hj1 (by rw [Bool.true_or] at hb ⊢;exact hb));simp only [Qq.l1,hw]
    rw [if_pos (Int.ofNat_lt.2 hlt),if_pos trivial]
   | false =>
    have hin:(Y5 l1 so[j]).length≤9223372036854775807:=by
     obtain ⟨q,hq⟩:∃ q:Nat,so[j]=(q:Int):=⟨so[j].toNat,by omega⟩
     have hq2:q<l1.length:=by omega
     rw [hq,qpi l1 q hq2]
     exact hl _ (List.getElem_mem hq2)
    obtain ⟨p,hP,hp⟩:=qkj (Y5 l1 so[j]) (c:Int) hin;refine Ev.step (f:=fun k=>(Yo.f k (Y5 l1 so[j]) (c:Int)).bind fun qd2=>(Qq.l1 k l0 l1 so x8 x9 (c:Int) (decide (qd2≥0)) ((j+1:Nat):Int))) (fun k => ?_) (Ev.bind hP (ih (j+1) _ hj1 ?_))
    ·
     simp only [Qq.l1,hw];rw [if_pos (Int.ofNat_lt.2 hlt),if_neg (by decide),if_pos (Int.natCast_nonneg j),hr,if_pos g0,if_pos g1]
    ·
     rw [hp,← hb,Bool.false_or]
 have outer:∀ (d c:Nat) (x8 x9:Int),c+d=l0.length→Ev (fun k=>Qq.l0 k l0 l1 so x8 x9 (c:Int)) (ws (cov l1 so) c (l0.drop c) x8 x9):=by
  intro d
  induction d with
  | zero =>
   intro c x8 x9 hc
   rw [List.drop_eq_nil_of_le (by omega)]
   refine Ev.step (f:=fun _=>some (x8,x9)) (fun k => ?_) (Ev.now _)
   simp only [Qq.l0]
   rw [if_neg (by omega)]
  | succ d ih =>
   intro c x8 x9 hc
   have hlt:c<l0.length:=by omega
   have hr:=qkp l0 c hlt
   rw [List.drop_eq_getElem_cons hlt,ws]
   refine Ev.step (f:=fun k=>Qq.l1 k l0 l1 so x8 x9 (c:Int) false ((0:Nat):Int)) (fun k => ?_) (inner c x8 x9 _ hlt (fun b hb => ?_) so.length 0 false (by omega) (by rw [List.drop_zero];rfl))
   ·
    simp only [Qq.l0];rw [if_pos (Int.ofNat_lt.2 hlt)]
    rfl
   ·
    subst hb
    cases cov l1 so c with
    | true =>
     rw [if_pos rfl,hr]
     exact Ev.congr (fun k=>by rw [if_pos rfl]) (ih (c+1) _ _ (by omega))
    | false =>
     rw [if_neg (by decide)]
     exact Ev.congr (fun k=>by rw [if_neg (by decide)]) (ih (c+1) _ _ (by omega))
 exact Ev.congr (fun k=>rfl) (outer l0.length 0 0 0 (by omega))
def memB (m:Nat):Nat→Nat→List Int
 | _,0=>[]
 | lo,d+1=>if m.testBit lo=true then (lo:Int)::memB m (lo+1) d else memB m (lo+1) d
theorem qb4 (m n:Nat):∀ (d lo:Nat),lo+d=n→ris (n:Int) (lo:Int) (memB m lo d)=true
 | 0,_,_=>rfl
 | d+1,lo,h=>by
  rw [memB]
  have ih:=qb4 m n d (lo+1) (by omega)
  by_cases c:m.testBit lo=true
  ·
   rw [if_pos c,JE];exact ⟨Int.le_refl _,by omega,by push_cast at ih;exact ih⟩
  ·
   rw [if_neg c];exact qgR (by push_cast;omega) ih
theorem qfb (m:Nat):∀ (d lo:Nat),(memB m lo d).length≤d
 | 0,_=>Nat.le_refl _
 | d+1,lo=>by
  rw [memB]
  have:=qfb m d (lo+1)
  split
  ·
   rw [List.length_cons];omega
  ·
   omega
theorem XX (m n:Nat):∀ (d lo:Nat) (q:List Int),lo+d=n→ris (n:Int) (lo:Int) q=true→(∀ j:Nat,lo≤j→m.testBit j=decide ((j:Int)∈q))→memB m lo d=q
 | 0,lo,q,h,hr,_=>by
  match q with
  | []=>rfl
  | x::xs=>rw [JE] at hr;omega
 | d+1,lo,q,h,hr,hb=>by
  rw [memB]
  match q with
  | [] =>
   have:m.testBit lo=false:=by rw [hb lo (Nat.le_refl _)];simp
   rw [this,if_neg (by decide)]
   exact XX m n d (lo+1) [] (by omega) rfl (fun j hj=>hb j (by omega))
  | x::xs =>
   rw [JE] at hr
   by_cases c:x=(lo:Int)
   ·
    subst c
    have:m.testBit lo=true:=by rw [hb lo (Nat.le_refl _)];simp
    rw [if_pos this,XX m n d (lo+1) xs (by omega) (by push_cast;exact hr.2.2) (fun j hj => ?_)];rw [hb j (by omega)]
    have:¬((j:Int)=(lo:Int)):=by omega
    simp [this]
   ·
    have:m.testBit lo=false:=by
     rw [hb lo (Nat.le_refl _)];refine decide_eq_false (fun hm => ?_)
     rcases List.mem_cons.1 hm with e|hm
     ·
      exact c e.symm
     ·
      have:=UR hr.2.2 _ hm
      omega
    rw [this,if_neg (by decide)]
    exact XX m n d (lo+1) (x::xs) (by omega) (by rw [JE];exact ⟨by push_cast;omega,hr.2⟩) (fun j hj=>hb j (by omega))
theorem qka (n:Nat) (q:List Int) (hr:ris (n:Int) 0 q=true):∃ m:Nat,m<2 ^ n∧memB m 0 n=q:=by
 have hlt:∀ (l:List Int) (acc:Nat),(∀ x∈l,0≤x∧x<(n:Int))→acc<2 ^ n→mk acc l<2 ^ n:=by
  intro l
  induction l with
  | nil=>intro acc _ h;exact h
  | cons c cs ih =>
   intro acc h ha
   have:=h c (by simp)
   exact ih _ (fun x hx=>h x (by simp [hx])) (Nat.or_lt_two_pow ha (Nat.pow_lt_pow_right (by decide) (by omega)))
 refine ⟨mk 0 q,hlt q 0 (UR hr) (Nat.two_pow_pos n),XX (mk 0 q) n n 0 q (by omega) hr (fun j _ => ?_)⟩
 rw [qgj q 0 j (fun x hx=>(UR hr x hx).1),Nat.zero_testBit,Bool.false_or]
theorem qgi (m n:Nat) (hm:m<2 ^ 62) (hn:n≤62):Ev (fun k=>Qx.f k (m:Int) (n:Int)) (memB m 0 n):=by
 have loop:∀ (d i:Nat) (acc:List Int),i+d=n→acc.length≤i→Ev (fun k=>Qx.l0 k (m:Int) (n:Int) acc (i:Int)) (acc++memB m i d):=by
  intro d
  induction d with
  | zero =>
   intro i acc hi ha
   refine Ev.step (f:=fun _=>some acc) (fun k => ?_) ?_
   ·
    simp only [Qx.l0];rw [if_neg (by omega)]
   ·
    rw [memB,List.append_nil];exact Ev.now _
  | succ d ih =>
   intro i acc hi ha
   have hlt:i<n:=by omega
   have hw:=wr1 i n hlt (by omega)
   have hb:Jg.f (m:Int) (i:Int)=some (m.testBit i):=by
    unfold Jg.f;rw [if_pos (Int.natCast_nonneg i),bitN m i hm (by clear hw;omega)]
   rw [memB]
   cases c:m.testBit i with
   | true =>
    rw [if_pos rfl];have:=ih (i+1) (acc++[(i:Int)]) (by clear hw;omega) (by simp;omega);rw [List.append_assoc] at this;refine Ev.step (fun k => ?_) this;simp only [Qx.l0,hw]
    rw [if_pos (Int.ofNat_lt.2 hlt),hb,Option.bind_some,c,if_pos rfl,if_pos (by clear hw;omega)]
   | false =>
    rw [if_neg (by decide)];refine Ev.step (fun k => ?_) (ih (i+1) acc (by clear hw;omega) (by omega));simp only [Qx.l0,hw];rw [if_pos (Int.ofNat_lt.2 hlt),hb,Option.bind_some,c,if_neg (by decide)]
 exact Ev.congr (fun k=>rfl) (loop n 0 [] (by omega) (by simp))
theorem qiN (l:List Int) (n:Nat) (hn:n≤9223372036854775807) (hl:l.length≤9223372036854775807):Ev (fun k=>QB.f k l (n:Int)) (ris (n:Int) 0 l):=by
 have hn1:wrap64 ((n:Int)-1)=(n:Int)-1:=by unfold wrap64;omega
 have loop:∀ (d i:Nat) (p:Int),i+d+1=l.length→0≤p→rd l (i:Int)=p→Ev (fun k=>QB.l0 k l (n:Int) ((i+1:Nat):Int)) (ris (n:Int) (p+1) (l.drop (i+1))):=by
  intro d
  induction d with
  | zero =>
   intro i p hi hp hr
   rw [List.drop_eq_nil_of_le (by omega)]
   refine Ev.step (f:=fun _=>some true) (fun k => ?_) (Ev.now _)
   simp only [QB.l0]
   rw [if_neg (by omega)]
  | succ d ih =>
   intro i p hi hp hr
   have hlt:i+1<l.length:=by omega
   have hr2:=rdB l (i+1) hlt
   rw [List.drop_eq_getElem_cons hlt,ris]
   have f1:((i+1:Nat):Int)<(l.length:Int):=Int.ofNat_lt.2 hlt
   have f2:(0:Int)≤((i+1:Nat):Int):=Int.natCast_nonneg _
   have f3:((i+1:Nat):Int)>0:=by omega
   have f4:(i:Int)<(l.length:Int):=by omega
   have ihh:=ih (i+1)
   have hd:i+1+d+1=l.length:=by omega
   obtain ⟨x,hx⟩:∃ x,l[i+1]=x:=⟨_,rfl⟩
   rw [hx] at hr2 ⊢
   have w1:wrap64 (((i+1:Nat):Int)-1)=(i:Int):=by clear hn1;unfold wrap64;omega
   have w2:=wr1 (i+1) l.length hlt (by clear hn1 w1;omega)
   by_cases c0:wi x 0 ((n:Int)-1)=true
   ·
    obtain ⟨c1,c2⟩:=Ox.1 c0
    by_cases c3:x≤p
    ·
     rw [decide_eq_false (by clear w1 w2 hn1;omega),Bool.false_and];refine Ev.step (f:=fun _=>some false) (fun k => ?_) (Ev.now _);simp only [QB.l0,OG,Option.bind_some,hr2,hn1,w1,hr];rw [if_pos f1,if_pos f2,if_pos c0,if_pos f3,if_pos (Int.natCast_nonneg i),if_pos f4,if_pos c3]
    ·
     rw [decide_eq_true (by clear w1 w2 hn1;omega),Bool.true_and];refine Ev.step (fun k => ?_) (ihh x hd c1 hr2);simp only [QB.l0,OG,Option.bind_some,hr2,hn1,w1,hr,w2];rw [if_pos f1,if_pos f2,if_pos c0,if_pos f3,if_pos (Int.natCast_nonneg i),if_pos f4,if_neg c3]
   ·
    have c1:¬(p+1≤x∧x<(n:Int)):=fun h=>c0 (Ox.2 ⟨by clear w1 w2 hn1;omega,by clear w1 w2 hn1;omega⟩)
    rw [decide_eq_false c1,Bool.false_and];refine Ev.step (f:=fun _=>some false) (fun k => ?_) (Ev.now _);simp only [QB.l0,OG,Option.bind_some,hr2,hn1];rw [if_pos f1,if_pos f2,if_neg c0]
 by_cases h0:l.length=0
 ·
  have:l=[]:=List.length_eq_zero_iff.1 h0
  subst this
  refine Ev.step (f:=fun _=>some true) (fun k => ?_) (Ev.now _)
  simp [QB.f,QB.l0]
 ·
  have hlt:0<l.length:=by omega
  have hr:=rdB l 0 hlt
  have e:l=l[0]::l.drop 1:=by rw [← List.drop_eq_getElem_cons hlt,List.drop_zero]
  obtain ⟨x,hx⟩:∃ x,l[0]=x:=⟨_,rfl⟩
  rw [hx] at hr e
  rw [e,ris,← e]
  have f1:(0:Int)<(l.length:Int):=by omega
  have w0:wrap64 (0+1)=((0+1:Nat):Int):=by unfold wrap64;omega
  rw [show ((0:Nat):Int)=0 from rfl] at hr
  by_cases c0:wi x 0 ((n:Int)-1)=true
  ·
   obtain ⟨c1,c2⟩:=Ox.1 c0
   rw [decide_eq_true (by clear w0 hn1;omega),Bool.true_and]
   refine Ev.step (fun k => ?_) (loop (l.length-1) 0 x (by clear w0 hn1;omega) c1 (by rw [show ((0:Nat):Int)=0 from rfl];exact hr))
   simp only [QB.f,QB.l0,OG,Option.bind_some,hr,hn1,w0]
   rw [if_pos f1,if_pos (Int.le_refl _),if_pos c0,if_neg (by decide)]
  ·
   have c1:¬((0:Int)≤x∧x<(n:Int)):=fun h=>c0 (Ox.2 ⟨h.1,by clear w0 hn1;omega⟩)
   rw [decide_eq_false c1,Bool.false_and]
   refine Ev.step (f:=fun _=>some false) (fun k => ?_) (Ev.now _)
   simp only [QB.f,QB.l0,OG,Option.bind_some,hr,hn1]
   rw [if_pos f1,if_pos (Int.le_refl _),if_neg c0]
theorem qik (a b:List Int) (ha:a.length≤9223372036854775807) (hb:b.length≤9223372036854775807):Ev (fun k=>Qu.f k a b) (bef a b):=by
 have loop:∀ (d i:Nat),i+d=a.length→i≤b.length→Ev (fun k=>Qu.l0 k a b (i:Int)) (bef (a.drop i) (b.drop i)):=by
  intro d
  induction d with
  | zero =>
   intro i hi hib
   rw [List.drop_eq_nil_of_le (by omega)]
   refine Ev.step (f:=fun k=>Qu.j1 k a b (i:Int) false) (fun k => ?_) ?_
   ·
    simp only [Qu.l0];rw [if_neg (by omega)]
   ·
    refine Ev.step (f:=fun _=>some (decide ((a.length:Int)<(b.length:Int)))) (fun k => ?_) ?_
    ·
     simp [Qu.j1]
    ·
     have:bef [] (b.drop i)=decide ((a.length:Int)<(b.length:Int)):=by
      by_cases c:i<b.length
      ·
       rw [List.drop_eq_getElem_cons c,decide_eq_true (by omega)];rfl
      ·
       rw [List.drop_eq_nil_of_le (by omega),decide_eq_false (by omega)];rfl
     rw [this]
     exact Ev.now _
  | succ d ih =>
   intro i hi hib
   have hlt:i<a.length:=by omega
   rw [List.drop_eq_getElem_cons hlt]
   have hra:=rdB a i hlt
   by_cases c:i<b.length
   ·
    have hrb:=rdB b i c
    have hi1:i+1+d=a.length:=by omega
    rw [List.drop_eq_getElem_cons c,bef];have hw:=wr1 i a.length hlt (by omega);refine Ev.step (f:=fun k=>Qu.j1 k a b (i:Int) true) (fun k => ?_) ?_
    ·
     simp only [Qu.l0];rw [if_pos (Int.ofNat_lt.2 hlt),decide_eq_true (Int.ofNat_lt.2 c)]
    ·
     by_cases e:a[i]=b[i]
     ·
      rw [if_pos e];refine Ev.step (fun k => ?_) (ih (i+1) hi1 c);simp only [Qu.j1,hra,hrb,hw];rw [if_pos trivial,if_pos (Int.natCast_nonneg i),if_pos (Int.ofNat_lt.2 hlt),if_pos (Int.ofNat_lt.2 c),if_pos e]
     ·
      rw [if_neg e];refine Ev.step (f:=fun _=>some (decide (a[i]<b[i]))) (fun k => ?_) (Ev.now _);simp only [Qu.j1,hra,hrb];rw [if_pos trivial,if_pos (Int.natCast_nonneg i),if_pos (Int.ofNat_lt.2 hlt),if_pos (Int.ofNat_lt.2 c),if_neg e]
   ·
    rw [List.drop_eq_nil_of_le (by omega:b.length≤i)];refine Ev.step (f:=fun k=>Qu.j1 k a b (i:Int) false) (fun k => ?_) ?_
    ·
     simp only [Qu.l0];rw [if_pos (Int.ofNat_lt.2 hlt),decide_eq_false (by omega)]
    ·
     refine Ev.step (f:=fun _=>some false) (fun k => ?_) (Ev.now _);simp only [Qu.j1];rw [if_neg (by decide),decide_eq_false (by omega)]
 exact Ev.congr (fun k=>rfl) (loop a.length 0 (by omega) (by omega))
end
section
attribute [local go_sem] Yr Yt YM YN Yi Yj Ys Yu
end
section
attribute [local go_sem] Yr Yt YM YN Yi Yj Ys Yu
end
section
attribute [local go_sem] Yr Yt YM YN Yi Yj Ys Yu
end
section
attribute [local go_sem] Yr Yt YM YN Yi Yj Ys Yu
end
section
attribute [local go_sem] Yr Yt YM YN Yi Yj Ys Yu
end
section
attribute [local go_sem] Yr Yt YM YN Yi Yj Ys Yu
end
section
attribute [local go_sem] Yr Yt YM YN Yi Yj Ys Yu
end
section
attribute [local go_sem] Yr Yt YM YN Yi Yj Ys Yu
end
section
theorem qmT (l:List Int) (hn:l.length≤9223372036854775807):∀ (d i:Nat),i+d=l.length→Ev (fun k=>QT.l0 k l l (i:Int)) true:=by
 intro d
 induction d with
 | zero =>
  intro i hi
  refine Ev.step (f:=fun _=>some true) (fun k => ?_) (Ev.now _)
  simp only [QT.l0]
  rw [if_neg (by omega)]
 | succ d ih =>
  intro i hi
  refine Ev.step (f:=fun k=>QT.l0 k l l ((i+1:Nat):Int)) (fun k => ?_) (ih (i+1) (by omega))
  have hw:=wr1 i l.length (by omega) (by omega)
  simp only [QT.l0,hw]
  rw [if_pos (by omega),if_pos (by omega),if_pos (by omega),if_pos trivial]
theorem qmS (l:List Int) (hn:l.length≤9223372036854775807):Ev (fun k=>QT.f k l l) true:=by
 refine Ev.congr (fun k => ?_) (qmT l hn l.length 0 (by omega))
 simp [QT.f]
end
section
theorem Inv.congr {V V':List Int→Int × Int} {P:List Int→Prop} {st:BSt} (h:Inv V P st) (e:∀ q,P q→V q=V' q):Inv V' P st:=by
 obtain ⟨h1,h2,h3⟩:=h
 refine ⟨h1,by rw [← e _ h1];exact h2,fun q hq => ?_⟩
 have:=h3 q hq
 unfold bet at this ⊢
 rw [← e _ h1,← e _ hq]
 exact this
def bxOk (l0:List Z7) (l1:List (List Int)):Bool:=decide ((l0.length:Int)≤12)&&decide ((l1.length:Int)≤8)&&(l0.all fun c=>wi c.f0 0 10000&&wi c.f1 0 10000)&&l1.all (ris (l0.length:Int) 0)
def Cho (l1:List (List Int)) (a2:Int) (q:List Int):Prop:=ris (l1.length:Int) 0 q=true∧(q.length:Int)≤a2
theorem qcB (l0:List Z7) (l1:List (List Int)) (a2:Int) (h:bxOk l0 l1=false):Qh.g l0 l1 a2=([],0,0,94):=by
 unfold Qh.g
 rw [qdJ]
 cases hr:Qh.rows (l0.length:Int) l1 with
 | none=>rfl
 | some sets =>
  dsimp only
  cases hk:(decide ((l0.length:Int)≤12)&&decide ((l1.length:Int)≤8)&&l0.all fun c=>wi c.f0 0 10000&&wi c.f1 0 10000) with
  | false=>rw [if_neg (by decide)]
  | true =>
   unfold bxOk at h
   rw [hk,Bool.true_and] at h
   rw [Bool.and_eq_true,Bool.and_eq_true,decide_eq_true_eq] at hk
   rw [qbF l0.length (by omega) l1,h,if_neg (by decide)] at hr
   cases hr
theorem qaC (l0:List Z7) (l1:List (List Int)) (a2:Int) (h:bxOk l0 l1=true) (ha:wi a2 0 8=false):Qh.g l0 l1 a2=([],0,0,7):=by
 unfold bxOk at h
 rw [Bool.and_eq_true] at h
 have hk:=h.1
 rw [Bool.and_eq_true,Bool.and_eq_true,decide_eq_true_eq] at hk
 unfold Qh.g
 rw [qdJ,qbF l0.length (by omega) l1,h.2,if_pos rfl,h.1,ha]
 rfl
theorem qbK (l0:List Z7) (l1:List (List Int)) (a2:Int) (h:bxOk l0 l1=true) (ha:wi a2 0 8=true):∃ st:BSt,Qh.g l0 l1 a2=(st.ch,st.sp,st.lo,0)∧Inv (wv l0 l1) (Cho l1 a2) st:=by
 unfold bxOk at h
 rw [Bool.and_eq_true] at h
 have hk:=h.1
 rw [Bool.and_eq_true,Bool.and_eq_true,decide_eq_true_eq] at hk
 obtain ⟨a0,a1⟩:=Ox.1 ha
 have h12:l0.length≤12:=by omega
 refine ⟨Qh.tries l0 (l1.map fun l=>((mk 0 l:Nat):Int)) (min a2.toNat l1.length+1) 0 ⟨[],0,0⟩,?_,?_⟩
 ·
  unfold Qh.g
  rw [qdJ,qbF l0.length h12 l1,h.2,if_pos rfl,h.1,ha]
  simp only [List.length_map,if_true]
 ·
  refine ((qgV l0 (l1.map fun l=>((mk 0 l:Nat):Int)) (min a2.toNat l1.length)).iff _ (fun q => ?_)).congr (fun q hq=>qsi l0 h12 l1 h.2 q hq.1)
  rw [List.length_map]
  unfold Cho
  constructor
  ·
   rintro ⟨r,k⟩;exact ⟨r,by omega⟩
  ·
   rintro ⟨r,k⟩
   have:=qhX (Int.natCast_nonneg _) r
   exact ⟨r,by omega⟩
section
variable (l0:List Z7) (l1:List (List Int)) (a2:Int) (hn0:l0.length≤9223372036854775807) (hn1:l1.length≤9223372036854775807) (hn:∀ l∈l1,l.length≤9223372036854775807)
include hn0 hn1 hn
theorem qgP (hok:bxOk l0 l1=true) (ha:wi a2 0 8=true):∃ st:BSt,Ev (fun k=>Qa.l2 k l0 l1 a2 [] 0 0 1) (st.ch,st.sp,st.lo,0)∧Inv (wv l0 l1) (Cho l1 a2) st:=by
 unfold bxOk at hok
 rw [Bool.and_eq_true] at hok
 have hk:=hok.1
 rw [Bool.and_eq_true,Bool.and_eq_true,decide_eq_true_eq,decide_eq_true_eq] at hk
 obtain ⟨a0,a1⟩:=Ox.1 ha
 have h12:l0.length≤12:=by omega
 have h8:l1.length≤8:=by omega
 have hp:2 ^ l1.length≤256:=Nat.le_trans (Nat.pow_le_pow_right (by decide) h8) (by decide)
 have hsh:=shlN l1.length (by omega)
 have loop:∀ (d s:Nat) (st:BSt),s+d=2 ^ l1.length→1≤s→Inv (wv l0 l1) (fun q=>(∃ m:Nat,m<s∧memB m 0 l1.length=q)∧(q.length:Int)≤a2) st →
   ∃ st':BSt,Ev (fun k=>Qa.l2 k l0 l1 a2 st.ch st.sp st.lo (s:Int)) (st'.ch,st'.sp,st'.lo,0)∧Inv (wv l0 l1) (Cho l1 a2) st':=by
  intro d
  induction d with
  | zero =>
   intro s st hs h1 hI
   refine ⟨st,Ev.step (f:=fun _=>some (st.ch,st.sp,st.lo,0)) (fun k => ?_) (Ev.now _),hI.iff _ (fun q => ?_)⟩
   ·
    simp only [Qa.l2,hsh];rw [if_neg (by omega)]
   ·
    constructor
    ·
     rintro ⟨⟨m,hm,rfl⟩,k⟩;exact ⟨qb4 m l1.length l1.length 0 (by omega),k⟩
    ·
     rintro ⟨r,k⟩;obtain ⟨m,hm,e⟩:=qka l1.length q r
     exact ⟨⟨m,by omega,e⟩,k⟩
  | succ d ih =>
   intro s st hs h1 hI
   have hlt:(s:Int)<((2 ^ l1.length:Nat):Int):=by omega
   have qr9:s<2 ^ 62:=Nat.lt_of_lt_of_le (by omega:s<256) (by decide)
   have hM:=qgi s l1.length qr9 (by omega)
   obtain ⟨so,hso⟩:∃ so,memB s 0 l1.length=so:=⟨_,rfl⟩
   rw [hso] at hM
   have hr:ris (l1.length:Int) 0 so=true:=by rw [← hso];exact qb4 s l1.length l1.length 0 (by omega)
   have hsl:so.length≤8:=by rw [← hso];exact Nat.le_trans (qfb s l1.length 0) h8
   have hs1:s+1+d=2 ^ l1.length:=by omega
   have hs2:1≤s+1:=by omega
   have hw:wrap64 ((s:Int)+1)=((s+1:Nat):Int):=by unfold wrap64;omega
   have hC:=qip l0 h12 l1 hn so (UR hr) (by omega)
   have chl:(st.ch.length:Int)≤8:=Int.le_trans hI.mem.2 a1
   have keep:((so.length:Int)≤a2 → ¬bet (wv l0 l1) so st.ch) → ∃ st':BSt,Ev (fun k=>Qa.l2 k l0 l1 a2 st.ch st.sp st.lo ((s+1:Nat):Int)) (st'.ch,st'.sp,st'.lo,0)∧Inv (wv l0 l1) (Cho l1 a2) st':=by
    intro hnb;refine ih (s+1) st hs1 hs2 ⟨⟨?_,hI.mem.2⟩,hI.val,?_⟩
    ·
     obtain ⟨m,hm,e⟩:=hI.mem.1;exact ⟨m,by omega,e⟩
    ·
     rintro q ⟨⟨m,hm,e⟩,k⟩
     by_cases c:m=s
     ·
      subst c;rw [hso] at e;subst e
      exact hnb k
     ·
      exact hI.best q ⟨⟨m,by omega,e⟩,k⟩
   have take:(so.length:Int)≤a2→bet (wv l0 l1) so st.ch → ∃ st':BSt,Ev (fun k=>Qa.l2 k l0 l1 a2 so (wv l0 l1 so).1 (wv l0 l1 so).2 ((s+1:Nat):Int)) (st'.ch,st'.sp,st'.lo,0)∧Inv (wv l0 l1) (Cho l1 a2) st':=by
    intro hl hb;refine ih (s+1) ⟨so,(wv l0 l1 so).1,(wv l0 l1 so).2⟩ hs1 hs2 ⟨⟨⟨s,by omega,hso⟩,hl⟩,rfl,?_⟩;rintro q ⟨⟨m,hm,e⟩,k⟩
    by_cases c:m=s
    ·
     subst c;rw [hso] at e;subst e
     exact qa2 _ _
    ·
     exact fun hq=>hI.best q ⟨⟨m,by omega,e⟩,k⟩ (qim _ hq hb)
   have hval:=hI.val
   obtain ⟨v,hv⟩:∃ v,wv l0 l1 so=v:=⟨_,rfl⟩
   rw [hv] at hC take
   have open_:∀ {R},((so.length:Int)≤a2→Ev (fun k=>if v.1>st.sp then (Qa.l2 k l0 l1 a2 so v.1 v.2 ((s+1:Nat):Int)) else (if v.1=st.sp then (if v.2<st.lo then (Qa.l2 k l0 l1 a2 so v.1 v.2 ((s+1:Nat):Int)) else (if v.2=st.lo then (if (so.length:Int)<(st.ch.length:Int) then (Qa.l2 k l0 l1 a2 so v.1 v.2 ((s+1:Nat):Int)) else (if (so.length:Int)=(st.ch.length:Int) then ((Qu.f k so st.ch).bind fun qag=>(if qag=true then (Qa.l2 k l0 l1 a2 so v.1 v.2 ((s+1:Nat):Int)) else (Qa.l2 k l0 l1 a2 st.ch st.sp st.lo ((s+1:Nat):Int)))) else (Qa.l2 k l0 l1 a2 st.ch st.sp st.lo ((s+1:Nat):Int)))) else (Qa.l2 k l0 l1 a2 st.ch st.sp st.lo ((s+1:Nat):Int)))) else (Qa.l2 k l0 l1 a2 st.ch st.sp st.lo ((s+1:Nat):Int)))) R) →
     (¬(so.length:Int)≤a2→Ev (fun k=>Qa.l2 k l0 l1 a2 st.ch st.sp st.lo ((s+1:Nat):Int)) R)→Ev (fun k=>Qa.l2 k l0 l1 a2 st.ch st.sp st.lo (s:Int)) R:=by
    intro R g1 g2;refine Ev.step (f:=fun k=>(Qx.f k (s:Int) (l1.length:Int)).bind fun Z9=>(if (Z9.length:Int)>a2 then (Qa.l2 k l0 l1 a2 st.ch st.sp st.lo ((s+1:Nat):Int)) else ((Qq.f k l0 l1 Z9).bind fun Zx=>(if Zx.1>st.sp then (Qa.l2 k l0 l1 a2 Z9 Zx.1 Zx.2 ((s+1:Nat):Int)) else (if Zx.1=st.sp then (if Zx.2<st.lo then (Qa.l2 k l0 l1 a2 Z9 Zx.1 Zx.2 ((s+1:Nat):Int)) else (if Zx.2=st.lo then (if (Z9.length:Int)<(st.ch.length:Int) then (Qa.l2 k l0 l1 a2 Z9 Zx.1 Zx.2 ((s+1:Nat):Int)) else (if (Z9.length:Int)=(st.ch.length:Int) then ((Qu.f k Z9 st.ch).bind fun qag=>(if qag=true then (Qa.l2 k l0 l1 a2 Z9 Zx.1 Zx.2 ((s+1:Nat):Int)) else (Qa.l2 k l0 l1 a2 st.ch st.sp st.lo ((s+1:Nat):Int)))) else (Qa.l2 k l0 l1 a2 st.ch st.sp st.lo ((s+1:Nat):Int)))) else (Qa.l2 k l0 l1 a2 st.ch st.sp st.lo ((s+1:Nat):Int)))) else (Qa.l2 k l0 l1 a2 st.ch st.sp st.lo ((s+1:Nat):Int))))))) (fun k => ?_) (Ev.bind hM ?_)
    ·
     simp only [Qa.l2,hsh,hw];rw [if_pos hlt]
    ·
     by_cases c:(so.length:Int)>a2
     ·
      exact Ev.congr (fun k=>by rw [if_pos c]) (g2 (by omega))
     ·
      exact Ev.congr (fun k=>by rw [if_neg c]) (Ev.bind hC (g1 (by omega)))
   by_cases c:(so.length:Int)≤a2
   ·
    have hbet:bet (wv l0 l1) so st.ch↔st.sp<v.1∨(v.1=st.sp∧(v.2<st.lo∨(v.2=st.lo∧(so.length<st.ch.length∨(so.length=st.ch.length∧bef so st.ch=true))))):=by
     unfold bet;rw [hv,hval]
    by_cases c1:v.1>st.sp
    ·
     obtain ⟨st',hE,hI'⟩:=take c (hbet.2 (.inl c1))
     exact ⟨st',open_ (fun _=>Ev.congr (fun k=>by rw [if_pos c1]) hE) (fun x=>absurd c x),hI'⟩
    ·
     by_cases c2:v.1=st.sp
     ·
      by_cases c3:v.2<st.lo
      ·
       obtain ⟨st',hE,hI'⟩:=take c (hbet.2 (.inr ⟨c2,.inl c3⟩))
       exact ⟨st',open_ (fun _=>Ev.congr (fun k=>by rw [if_neg c1,if_pos c2,if_pos c3]) hE) (fun x=>absurd c x),hI'⟩
      ·
       by_cases c4:v.2=st.lo
       ·
        by_cases c5:(so.length:Int)<(st.ch.length:Int)
        ·
         obtain ⟨st',hE,hI'⟩:=take c (hbet.2 (.inr ⟨c2,.inr ⟨c4,.inl (by omega)⟩⟩))
         exact ⟨st',open_ (fun _=>Ev.congr (fun k=>by rw [if_neg c1,if_pos c2,if_neg c3,if_pos c4,if_pos c5]) hE) (fun x=>absurd c x),hI'⟩
        ·
         by_cases c6:(so.length:Int)=(st.ch.length:Int)
         ·
          have hB:=qik so st.ch (by omega) (by omega)
          cases hb:bef so st.ch with
          | true =>
           obtain ⟨st',hE,hI'⟩:=take c (hbet.2 (.inr ⟨c2,.inr ⟨c4,.inr ⟨by omega,hb⟩⟩⟩));rw [hb] at hB
           exact ⟨st',open_ (fun _=>Ev.congr (fun k=>by rw [if_neg c1,if_pos c2,if_neg c3,if_pos c4,if_neg c5,if_pos c6]) (Ev.bind hB (Ev.congr (fun k=>by rw [if_pos rfl]) hE))) (fun x=>absurd c x),hI'⟩
          | false =>
           rw [hb] at hB
           obtain ⟨st',hE,hI'⟩:=keep (fun _ x=>by
            have:=hbet.1 x;rw [hb] at this;simp only [Bool.false_eq_true,and_false,or_false] at this
            omega)
           exact ⟨st',open_ (fun _=>Ev.congr (fun k=>by rw [if_neg c1,if_pos c2,if_neg c3,if_pos c4,if_neg c5,if_pos c6]) (Ev.bind hB (Ev.congr (fun k=>by rw [if_neg (by decide)]) hE))) (fun x=>absurd c x),hI'⟩
         ·
          obtain ⟨st',hE,hI'⟩:=keep (fun _ x=>by have:=hbet.1 x;omega)
          exact ⟨st',open_ (fun _=>Ev.congr (fun k=>by rw [if_neg c1,if_pos c2,if_neg c3,if_pos c4,if_neg c5,if_neg c6]) hE) (fun x=>absurd c x),hI'⟩
       ·
        obtain ⟨st',hE,hI'⟩:=keep (fun _ x=>by have:=hbet.1 x;omega)
        exact ⟨st',open_ (fun _=>Ev.congr (fun k=>by rw [if_neg c1,if_pos c2,if_neg c3,if_neg c4]) hE) (fun x=>absurd c x),hI'⟩
     ·
      obtain ⟨st',hE,hI'⟩:=keep (fun _ x=>by have:=hbet.1 x;omega)
      exact ⟨st',open_ (fun _=>Ev.congr (fun k=>by rw [if_neg c1,if_neg c2]) hE) (fun x=>absurd c x),hI'⟩
   ·
    obtain ⟨st',hE,hI'⟩:=keep (fun x=>absurd x c)
    exact ⟨st',open_ (fun x=>absurd x c) (fun _=>hE),hI'⟩
 have zero:memB 0 0 l1.length=[]:=XX 0 l1.length l1.length 0 [] (by omega) rfl (fun j _=>by simp)
 have one:wv l0 l1 []=(0,0):=by
  have:∀ (cs:List Z7) (i:Nat),ws (cov l1 []) i cs 0 0=(0,0):=by
   intro cs
   induction cs with
   | nil=>intro i;rfl
   | cons c cs ih=>intro i;rw [ws,if_neg (by simp [cov])];exact ih _
  exact this l0 0
 have h1p:1≤2 ^ l1.length:=Nat.two_pow_pos _
 exact loop (2 ^ l1.length-1) 1 ⟨[],0,0⟩ (by omega) (Nat.le_refl _) ⟨⟨⟨0,by decide,zero⟩,by simpa using a0⟩,one,fun q ⟨⟨m,hm,e⟩,_⟩=>by
  have:m=0:=by omega
  subst this
  rw [zero] at e
  subst e
  exact qa2 _ _⟩
theorem qdO:∃ R,Ev (fun k=>Qa.f k l0 l1 a2) R∧R=Qh.g l0 l1 a2:=by
 have fin:∃ R,Ev (fun k=>Qa.j4 k l0 l1 a2 (bxOk l0 l1)) R∧R=Qh.g l0 l1 a2:=by
  cases hok:bxOk l0 l1 with
  | false =>
   refine ⟨_,Ev.step (f:=fun _=>some (([]:List Int),0,0,94)) (fun k => ?_) (Ev.now _),(qcB l0 l1 a2 hok).symm⟩
   simp [Qa.j4]
  | true =>
   cases ha:wi a2 0 8 with
   | false =>
    refine ⟨_,Ev.step (f:=fun _=>some (([]:List Int),0,0,7)) (fun k => ?_) (Ev.now _),(qaC l0 l1 a2 hok ha).symm⟩
    simp [Qa.j4,OG,ha]
   | true =>
    obtain ⟨st,hE,hI⟩:=qgP l0 l1 a2 hn0 hn1 hn hok ha;obtain ⟨st',e,hI'⟩:=qbK l0 l1 a2 hok ha;have hc:=qjw hI.mem hI'.mem hI.best hI'.best;have hv:=hI.val;rw [hc,hI'.val,Prod.mk.injEq] at hv;refine ⟨_,Ev.step (fun k => ?_) hE,?_⟩
    ·
     simp [Qa.j4,OG,ha]
    ·
     rw [e,hc,hv.1,hv.2]
 obtain ⟨R,hE,hR⟩:=fin
 refine ⟨R,?_,hR⟩
 have boxes:∀ (d i:Nat) (b:Bool),i+d=l1.length→(b&&(l1.drop i).all (ris (l0.length:Int) 0))=bxOk l0 l1→Ev (fun k=>Qa.l1 k l0 l1 a2 b (i:Int)) R:=by
  intro d
  induction d with
  | zero =>
   intro i b hi hb
   rw [List.drop_eq_nil_of_le (by omega),List.all_nil,Bool.and_true] at hb
   refine Ev.step (fun k => ?_) hE
   simp only [Qa.l1,← hb]
   by_cases c:b=true
   ·
    rw [if_pos c,if_neg (by omega)]
   ·
    rw [if_neg c]
  | succ d ih =>
   intro i b hi hb
   have hlt:i<l1.length:=by omega
   cases b with
   | false =>
    rw [Bool.false_and] at hb;refine Ev.step (fun k => ?_) hE;simp only [Qa.l1,← hb]
    rw [if_neg (by decide)]
   | true =>
    rw [List.drop_eq_getElem_cons hlt,List.all_cons,Bool.true_and] at hb;have hR5:=qpi l1 i hlt;have hS:=qiN l1[i] l0.length hn0 (hn _ (List.getElem_mem hlt))
    have hi1:i+1+d=l1.length:=by omega
    have hw:=wr1 i l1.length hlt (by omega);refine Ev.step (f:=fun k=>(QB.f k l1[i] (l0.length:Int)).bind fun qd3=>(Qa.l1 k l0 l1 a2 qd3 ((i+1:Nat):Int))) (fun k => ?_) (Ev.bind hS (ih (i+1) _ hi1 hb));simp only [Qa.l1,hR5,hw];rw [if_pos trivial,if_pos (Int.ofNat_lt.2 hlt),if_pos (Int.natCast_nonneg i)]
 have cells:∀ (d i:Nat) (b:Bool),i+d=l0.length→(b&&((l0.drop i).all fun c=>wi c.f0 0 10000&&wi c.f1 0 10000)&&l1.all (ris (l0.length:Int) 0))=bxOk l0 l1→Ev (fun k=>Qa.l0 k l0 l1 a2 b (i:Int)) R:=by
  intro d
  have out:∀ (i:Nat) (b:Bool),(b&&l1.all (ris (l0.length:Int) 0))=bxOk l0 l1→Ev (fun k=>Qa.j2 k l0 l1 a2 b (i:Int) false) R:=by
   intro i b hb
   refine Ev.step (f:=fun k=>Qa.l1 k l0 l1 a2 b ((0:Nat):Int)) (fun k => ?_) (boxes l1.length 0 b (by omega) (by rw [List.drop_zero];exact hb))
   simp [Qa.j2]
  induction d with
  | zero =>
   intro i b hi hb
   rw [List.drop_eq_nil_of_le (by omega),List.all_nil,Bool.and_true] at hb
   refine Ev.step (fun k => ?_) (out i b hb)
   simp only [Qa.l0]
   by_cases c:b=true
   ·
    rw [if_pos c,decide_eq_false (by omega)]
   ·
    rw [if_neg c]
  | succ d ih =>
   intro i b hi hb
   have hlt:i<l0.length:=by omega
   cases b with
   | false =>
    refine Ev.step (fun k => ?_) (out i false (by rw [Bool.false_and,Bool.false_and] at hb;rw [Bool.false_and];exact hb));simp only [Qa.l0]
    rw [if_neg (by decide)]
   | true =>
    rw [List.drop_eq_getElem_cons hlt,List.all_cons,Bool.true_and] at hb;have hr:=qkp l0 i hlt
    have hi1:i+1+d=l0.length:=by omega
    have hE2:=ih (i+1) (wi l0[i].f0 0 10000&&wi l0[i].f1 0 10000) hi1 hb;refine Ev.step (f:=fun k=>Qa.j2 k l0 l1 a2 true (i:Int) true) (fun k => ?_) ?_
    ·
     simp only [Qa.l0];rw [if_pos trivial,decide_eq_true (Int.ofNat_lt.2 hlt)]
    ·
     have hw:=wr1 i l0.length hlt (by omega);refine Ev.step (fun k => ?_) hE2;simp only [Qa.j2,OG,Option.bind_some,hr,hw];rw [if_pos trivial,if_pos (Int.natCast_nonneg i),if_pos (Int.ofNat_lt.2 hlt)]
     cases wi l0[i].f0 0 10000 with
     | true=>rw [if_pos rfl,Bool.true_and]
     | false=>rw [if_neg (by decide),Bool.false_and]
 have j:∀ b:Bool,(b&&(l0.all fun c=>wi c.f0 0 10000&&wi c.f1 0 10000)&&l1.all (ris (l0.length:Int) 0))=bxOk l0 l1→Ev (fun k=>Qa.j0 k l0 l1 a2 b) R:=by
  intro b hb
  refine Ev.step (f:=fun k=>Qa.l0 k l0 l1 a2 b ((0:Nat):Int)) (fun k => ?_) (cells l0.length 0 b (by omega) (by rw [List.drop_zero];exact hb))
  simp [Qa.j0]
 by_cases c:(l0.length:Int)≤12
 ·
  exact Ev.congr (fun k=>by rw [Qa.f,if_pos c]) (j _ (by unfold bxOk;rw [decide_eq_true c,Bool.true_and]))
 ·
  exact Ev.congr (fun k=>by rw [Qa.f,if_neg c]) (j _ (by unfold bxOk;rw [decide_eq_false c];simp only [Bool.false_and]))
end
theorem qqp (l0:List Z7) (l1:List (List Int)) (a2:Int):(Qh.g l0 l1 a2).1.length≤9223372036854775807:=by
 cases hok:bxOk l0 l1 with
 | false=>rw [qcB l0 l1 a2 hok];simp
 | true =>
  cases ha:wi a2 0 8 with
  | false=>rw [qaC l0 l1 a2 hok ha];simp
  | true =>
   obtain ⟨st,e,hI⟩:=qbK l0 l1 a2 hok ha
   rw [e]
   have:=hI.mem.2
   obtain ⟨a0,a1⟩:=Ox.1 ha
   dsimp only
   omega
theorem StockCloses (l0:List Z7) (l1:List (List Int)) (a2:Int) (hl:l0.length*16≤140737488351232) (hp:∀ x∈l0,qoh x) (hl1:l1.length*24≤140737488351232) (hp1:l1.length*24≤140737488351232 ∧ ∀ x∈l1,x.length*8≤140737488351232 ∧ ∀ y∈x,Wf y) (h2:Wf a2):∃ k,ZU.f k l0 l1 a2=some true:=by
 obtain ⟨R,hE,hR⟩:=qdO l0 l1 a2 (by omega) (by omega) (fun x hx=>by have:=(hp1.2 x hx).1;omega)
 have hg:Qh.f l0 l1 a2=some (Qh.g l0 l1 a2):=by rw [Qh.f,if_pos (by omega)]
 rw [hR] at hE
 refine Ev.rounds (Ev.congr (f:=fun k=>(Qa.f k l0 l1 a2).bind fun Kv=>((QT.f k (Qh.g l0 l1 a2).1 Kv.1).bind fun qaX=>(if qaX=true then (if (Qh.g l0 l1 a2).2.1=Kv.2.1 then (if (Qh.g l0 l1 a2).2.2.1=Kv.2.2.1 then (if (Qh.g l0 l1 a2).2.2.2=Kv.2.2.2 then ((Z8.f).bind fun WI=>(some WI)) else (some false)) else (some false)) else (some false)) else (some false)))) (fun k => ?_) (Ev.bind hE (Ev.bind (qmS _ (qqp l0 l1 a2)) ?_)))
 ·
  rw [ZU.f,hg,Option.bind_some]
 ·
  refine ⟨0,fun k _ => ?_⟩
  simp [Z8.f]
end
section
theorem qaP {H:Type} {P:Program} {e:TypeId} {d:DataW H} {n:Nat}:∀ {L:List (DataW H)},d∈L→n∈d.weights P e→n∈DataW.weightsAll P e L
 | [],h,_=>by simp at h
 | y::L,h,hn=>by
  rw [DataW.weightsAll,List.mem_append]
  rcases List.mem_cons.1 h with rfl|h
  ·
   exact .inl hn
  ·
   exact .inr (qaP h hn)
def Xf {α:Type} (d:Kd α) (t:TypeId) (p:α→Prop):Prop:=∀ (H:Type) (enc:TypeId × Value→H) (w:World) (fuel:Nat) (cs:List Value) (x:DataW H × List MemPlace),
 DataW.trod enc Try.prog w 0 (fun _=>true) true fuel t cs=some x→(∀ n∈x.1.weights Try.prog t,n≤reachBytes) → ∃ a,d.K w a cs∧p a
theorem W6.z {α:Type} {d:Kd α} {t:TypeId} {p:α→Prop} (h:W6 d t p):Xf d t p:=fun H enc w fuel cs x hf _=>h H enc w fuel cs x hf
theorem qab {α:Type} {d:Kd α} {e e' t:TypeId} {p:α→Prop} (B:Nat) (h:Xf d e p) (ht:Try.prog.underlying t=some (.slice e)) (hc:Try.prog.cellsOf e=d.sz) (hB:Try.prog.bytesOf e=B):Xf (Kd.slice e' d) t (fun xs=>xs.length*B≤140737488351232 ∧ ∀ x∈xs,p x):=fun H enc w fuel cs x hf hw=>by
 rcases Deep.open_slice ht hf with ⟨rfl,_⟩|⟨a,len,cap,m,n,D,Pl,rfl,_,hl,hm,hmm,hxx,hx⟩
 ·
  exact ⟨[],⟨none,0,rfl,Nat.le_refl _,Kd.C_nil d w⟩,by simp,fun x hx=>by simp at hx⟩
 ·
  subst hxx
  have hws:=hw
  simp only [DataW.weights,ht] at hws
  have hwl:(len+(m-len))*B≤reachBytes:=by
   have:=hws _ (List.mem_cons_self ..)
   rw [hB] at this
   simpa using this
  have hlb:len*B≤140737488351232:=by
   have hrb:reachBytes=140737488351232:=by decide
   rw [hrb] at hwl
   exact Nat.le_trans (Nat.mul_le_mul_right _ (by omega)) hwl
  have each:∀ i,i<len → ∃ z:α,(∃ c,c.length=d.sz∧d.K w z c ∧ ∀ j u,c[j]? = some u→w.cell? (a.add (i*d.sz+j))=some u)∧p z:=fun i hi=>by
   obtain ⟨cs',h1,h2⟩:=hx i (by simp only [if_true] at hmm;omega)
   obtain ⟨z,hz,hp⟩:=h H enc w n cs' _ h2 (fun q hq=>hws q (List.mem_cons_of_mem _ (List.mem_append.2 (.inl (qaP (List.mem_map.2 ⟨i,List.mem_range.2 hi,rfl⟩) hq)))))
   obtain ⟨_,hcl,hat⟩:=World.cells?_some h1
   refine ⟨z,⟨cs',d.K_len hz,hz,fun j u hu => ?_⟩,hp⟩
   have hj:j<cs'.length:=(List.getElem?_eq_some_iff.1 hu).1
   rw [d.K_len hz] at hj
   have hj':j<Try.prog.cellsOf e:=by rw [hc];exact hj
   have h3:=hat j hj'
   rw [Deep.add_add,hc] at h3
   rw [h3]
   exact hu
  by_cases h0:len=0
  ·
   subst h0
   exact ⟨[],⟨some a,cap,rfl,by simp,⟨rfl,by simp,fun hh=>by simp at hh⟩⟩,by simp,fun x hx=>by simp at hx⟩
  ·
   obtain ⟨z0,_⟩:=each 0 (by omega)
   have inst:Inhabited α:=⟨z0⟩
   obtain ⟨f,hfz⟩:=Deep.choose_lt each
   have hmx:cap≤9223372036854775807:=by unfold maxLen at hm;omega
   refine ⟨(List.range len).map f,⟨some a,cap,by simp,by simpa using hl,⟨rfl,by simp;omega,fun _=>⟨a,rfl,fun j q hj => ?_⟩⟩⟩,by simpa using hlb,fun x hx => ?_⟩
   ·
    have hj2:j<len:=by have:=(List.getElem?_eq_some_iff.1 hj).1;simpa using this
    rw [List.getElem?_map,List.getElem?_range hj2] at hj
    injection hj with hj
    subst hj;obtain ⟨c,c1,c2,c3⟩:=(hfz j hj2).1
    exact ⟨c,c1,c2,c3⟩
   ·
    obtain ⟨i,hi,rfl⟩:=List.mem_map.1 hx
    exact (hfz i (List.mem_range.1 hi)).2
theorem qfj:Xf (Kd.slice 37 (Kd.slice 3 (Kd.int .i64))) 63 (fun l=>l.length*24≤140737488351232 ∧ ∀ x∈l,x.length*8≤140737488351232 ∧ ∀ y∈x,Wf y) :=
 qab 24 (qab 8 qiK.z Try.underlying37 c3 (by kernel_rfl)) Try.underlying63 c37 (by kernel_rfl)
section
variable {H:Type} {enc:TypeId × Value→H} {W:World} {d:DataW H} {ps:List MemPlace}
theorem qfR {α:Type} {k:Kd α} {t e':TypeId} {p:List α→Prop} (hr:Xf (Kd.slice e' k) t p) {a:Option Addr} {len cap:Nat} {ts:List TypeId} {ds:List (DataW H)} {j:Nat}
  (hsz:(DataW.weightsEach Try.prog ts ds).all (· ≤ reachBytes)=true) (ht:ts[j]? = some t) (hd:ds[j]? = some d) (h:DataW.Trod enc Try.prog W 0 (fun _=>true) true t (.slice a len cap) d ps) :
  ∃ l:List α,len=l.length∧Kd.C k W a l.length l∧l.length≤cap∧p l:=by
 obtain ⟨fuel,hf⟩:=h
 obtain ⟨l,⟨A,c,e1,hc,hC⟩,hp⟩:=hr H enc W fuel _ _ hf (fun n hn=>by
  have:=List.all_eq_true.1 hsz n (DataW.weights_mem_each ht hd n hn)
  simpa using this)
 replace e1:[Value.slice a len cap]=[Value.slice A l.length c]:=e1
 injection e1 with e1
 injection e1 with e1 e2 e3
 subst e1 e2 e3
 exact ⟨l,rfl,hC,hc,hp⟩
end
end
end Go.Proofs.Ytmhomdohhihlcaa.P
