/- What the statement StockShares leans on, part 5 of 5: contracts of the program's functions; conditions: none. -/
import Derived.Deep.RegionHeld3
import Derived.Deep.Slices
import Derived.ChangeSame
import Derived.OpenShut
import Derived.SizedLaws
import Derived.Lib.SmallJoins
import Derived.Test.YtmhomdohhihlcaaStockSharesx0
import Derived.Test.YtmhomdohhihlcaaStockSharesx1
import Derived.Test.YtmhomdohhihlcaaStockSharesx2
import Derived.Test.YtmhomdohhihlcaaStockSharesx3
set_option linter.unusedVariables false
set_option linter.unusedSimpArgs false
set_option linter.constructorNameAsVariable false
set_option linter.unusedSectionVars false
namespace Go.Proofs.Ytmhomdohhihlcaa.P
open Go.RowKit Go.Proofs.YtmhomdohhihlcaaW.PrintWords Go.Proofs.YtmhomdohhihlcaaW.PrintLast Go.Proofs.YtmhomdohhihlcaaW.PrintMore
section
attribute [local go_sem] YH YJ Z0 Z1 Yr Ys YI YK
def Gy.f  : Option ((List (ZU))):=some (([(⟨50,8⟩:ZU),(⟨30,5⟩:ZU),(⟨20,1⟩:ZU),(⟨10,4⟩:ZU)]:List (ZU)))
set_option maxHeartbeats 8000000 in
set_option maxRecDepth 100000 in
theorem Gy.calls  (r:List (ZU)) (w:World) (h:Gy.f  = some r) :
  Calls Try.prog 62 #[] w fun e w' => ∃ v0_:Value,e = .returned (v0_)∧Kd.R XU 136 w' w.heap.size (fun _=>True) v0_ r∧Below w.heap.size w w':=by
 have qkM:=Try.underlying136
 have HB:=Q1.mk (Below.refl w.heap.size w)
 have H:(some (([(⟨50,8⟩:ZU),(⟨30,5⟩:ZU),(⟨20,1⟩:ZU),(⟨10,4⟩:ZU)]:List (ZU))))=some r:=h
 clear h
 obtain ⟨qBf,qfu⟩:∃ y_:List (ZU),y_=(([(⟨50,8⟩:ZU),(⟨30,5⟩:ZU),(⟨20,1⟩:ZU),(⟨10,4⟩:ZU)]:List (ZU))):=⟨_,rfl⟩
 replace H:(some qBf)=some r:=by first|(rw [qfu];with_reducible exact H)|(have H2_:=(Option.bind_some _ _).symm.trans H;rw [qfu];with_reducible exact H2_)|(have H2_:=(Option.bind_some _ _).symm.trans H;with_reducible exact H2_)|with_reducible exact H|(rw [qfu];exact H)|exact H
 have qoo:=Q1.mk qfu
 clear qfu
 obtain rfl:=Option.some.inj H
 go_enter Try.func62,Try.ntmps62
 go_wp2_with (first|((with_reducible refine QO (N:=5) rfl ?_);refine Kd.R_lit XU _ 136 ?hg (N:=5) ?hd (xs:=([(⟨50,8⟩:ZU),(⟨30,5⟩:ZU),(⟨20,1⟩:ZU),(⟨10,4⟩:ZU)]:List (ZU))) (inner:=[.int .i64 50,.int .i64 8,.int .i64 30,.int .i64 5,.int .i64 20,.int .i64 1,.int .i64 10,.int .i64 4]) (ok:=fun _=>True) (okp:=fun _=>True) ?hr ?hp (fun _ hk=>hk) trivial (Below.refl _ _) (Nat.le_refl _) (by simp) ?_;(case hd=>rfl);(case hg=>rfl);(case hr=>first|(go_simp;done)|(go_simp;rfl));(case hp=>exact (Reps.c2 (show Kd.M XU _ _ _ (⟨50,8⟩:ZU) [.int .i64 50,.int .i64 8] from (XV _ _ _ (⟨50,8⟩:ZU) )) (Reps.c2 (show Kd.M XU _ _ _ (⟨30,5⟩:ZU) [.int .i64 30,.int .i64 5] from (XV _ _ _ (⟨30,5⟩:ZU) )) (Reps.c2 (show Kd.M XU _ _ _ (⟨20,1⟩:ZU) [.int .i64 20,.int .i64 1] from (XV _ _ _ (⟨20,1⟩:ZU) )) (Reps.c2 (show Kd.M XU _ _ _ (⟨10,4⟩:ZU) [.int .i64 10,.int .i64 4] from (XV _ _ _ (⟨10,4⟩:ZU) )) (Reps.none _ _))))));intro qEW w1 ho2 hb hg_ hnew_;clear hg_ hnew_;(first|rw [← qoo.out] at ho2|(simp only [Int.reduceToNat] at ho2;rw [← qoo.out] at ho2));have n0_:=Q1.mk (Kd.R_lower ho2 (Qe (by repeat (first|(with_reducible first|exact HB.out|apply Q2|apply Q0|apply Q5)|exact HB.out))));have n1_:=Q1.mk (Qh (by repeat (first|(with_reducible first|exact HB.out|apply Q2|apply Q0|apply Q5)|exact HB.out)) hb);clear HB;have qqO:=n0_;have HB:=n1_;clear n0_ n1_ hb ho2))
 go_ret
 exact ⟨_,by first|rfl|(simp [Qp,Qq]<;>rfl)|(simp [*,Qp,Qq]<;>rfl),by (with_reducible repeat (first|apply Kd.R_alloc|apply Kd.R_drewN|apply Kd.R_drew));exact qqO.out,by repeat (first|(with_reducible first|exact HB.out|apply Q2|apply Q0|apply Q5)|exact HB.out)⟩
end
section
attribute [local go_sem] YH YJ Z0 Z1 Yr Ys YI YK
def JX.f  : Option ((List (List Int))):=some (([(([0,1]:List Int)),(([1,2]:List Int)),(([2,3]:List Int))]:List (List Int)))
set_option maxHeartbeats 8000000 in
set_option maxRecDepth 100000 in
theorem JX.calls  (r:List (List Int)) (w:World) (h:JX.f  = some r) :
  Calls Try.prog 63 #[] w fun e w' => ∃ v0_:Value,e = .returned (v0_)∧Kd.N (Kd.slice 3 (Kd.int .i64)) 37 w' w.heap.size (fun k_=>(w.heap.size≤k_)) v0_ r∧Below w.heap.size w w':=by
 have HB:=Q1.mk (Below.refl w.heap.size w)
 have H:(some (([(([0,1]:List Int)),(([1,2]:List Int)),(([2,3]:List Int))]:List (List Int))))=some r:=h
 clear h
 obtain ⟨qgg,qfv⟩:∃ y_:List Int,y_=(([0,1]:List Int)):=⟨_,rfl⟩
 replace H:(some (([qgg,(([1,2]:List Int)),(([2,3]:List Int))]:List (List Int))))=some r:=by first|(rw [qfv];with_reducible exact H)|(have H2_:=(Option.bind_some _ _).symm.trans H;rw [qfv];with_reducible exact H2_)|(have H2_:=(Option.bind_some _ _).symm.trans H;with_reducible exact H2_)|with_reducible exact H|(rw [qfv];exact H)|exact H
 have qop:=Q1.mk qfv
 clear qfv
 obtain ⟨qhB,qfw⟩:∃ y_:List Int,y_=(([1,2]:List Int)):=⟨_,rfl⟩
 replace H:(some (([qgg,qhB,(([2,3]:List Int))]:List (List Int))))=some r:=by first|(rw [qfw];with_reducible exact H)|(have H2_:=(Option.bind_some _ _).symm.trans H;rw [qfw];with_reducible exact H2_)|(have H2_:=(Option.bind_some _ _).symm.trans H;with_reducible exact H2_)|with_reducible exact H|(rw [qfw];exact H)|exact H
 have qoq:=Q1.mk qfw
 clear qfw
 obtain ⟨qjE,qfx⟩:∃ y_:List Int,y_=(([2,3]:List Int)):=⟨_,rfl⟩
 replace H:(some (([qgg,qhB,qjE]:List (List Int))))=some r:=by first|(rw [qfx];with_reducible exact H)|(have H2_:=(Option.bind_some _ _).symm.trans H;rw [qfx];with_reducible exact H2_)|(have H2_:=(Option.bind_some _ _).symm.trans H;with_reducible exact H2_)|with_reducible exact H|(rw [qfx];exact H)|exact H
 have qor:=Q1.mk qfx
 clear qfx
 obtain ⟨qBg,qfy⟩:∃ y_:List (List Int),y_=(([qgg,qhB,qjE]:List (List Int))):=⟨_,rfl⟩
 replace H:(some qBg)=some r:=by first|(rw [qfy];with_reducible exact H)|(have H2_:=(Option.bind_some _ _).symm.trans H;rw [qfy];with_reducible exact H2_)|(have H2_:=(Option.bind_some _ _).symm.trans H;with_reducible exact H2_)|with_reducible exact H|(rw [qfy];exact H)|exact H
 have qot:=Q1.mk qfy
 clear qfy
 obtain rfl:=Option.some.inj H
 go_enter Try.func63,Try.ntmps63
 go_wp2_with (first|((with_reducible refine QO (N:=1) rfl ?_);refine Kd.R_lit (Kd.int .i64) _ 3 ?hg (N:=1) ?hd (xs:=([0,1]:List Int)) (inner:=[.int .i64 0,.int .i64 1]) (ok:=fun _=>True) (okp:=fun _=>True) ?hr ?hp (fun _ hk=>hk) trivial (Below.refl _ _) (Nat.le_refl _) (by simp) ?_;(case hd=>rfl);(case hg=>rfl);(case hr=>first|(go_simp;done)|(go_simp;rfl));(case hp=>exact (Reps.one (show Kd.M (Kd.int .i64) _ _ _ 0 [.int .i64 0] from rfl) (Reps.one (show Kd.M (Kd.int .i64) _ _ _ 1 [.int .i64 1] from rfl) (Reps.none _ _))));intro qEX w1 ho2 hb hg_ hnew_;clear hg_ hnew_;(first|rw [← qop.out] at ho2|(simp only [Int.reduceToNat] at ho2;rw [← qop.out] at ho2));have n0_:=Q1.mk (Kd.R_lower (Kd.R_newM (M:=fun k_=>(w.heap.size≤k_)) ho2 (Qe (by repeat (first|(with_reducible first|exact HB.out|apply Q2|apply Q0|apply Q5)|exact HB.out))) (fun k_ h_=>h_)) (Qe (by repeat (first|(with_reducible first|exact HB.out|apply Q2|apply Q0|apply Q5)|exact HB.out))));have n1_:=Q1.mk (Qh (by repeat (first|(with_reducible first|exact HB.out|apply Q2|apply Q0|apply Q5)|exact HB.out)) hb);clear HB;have UV:=n0_;have HB:=n1_;clear n0_ n1_ hb ho2)|((with_reducible refine QO (N:=2) rfl ?_);refine Kd.R_lit (Kd.int .i64) _ 3 ?hg (N:=2) ?hd (xs:=([1,2]:List Int)) (inner:=[.int .i64 1,.int .i64 2]) (ok:=fun _=>True) (okp:=fun _=>True) ?hr ?hp (fun _ hk=>hk) trivial (Below.refl _ _) (Nat.le_refl _) (by simp) ?_;(case hd=>rfl);(case hg=>rfl);(case hr=>first|(go_simp;done)|(go_simp;rfl));(case hp=>exact (Reps.one (show Kd.M (Kd.int .i64) _ _ _ 1 [.int .i64 1] from rfl) (Reps.one (show Kd.M (Kd.int .i64) _ _ _ 2 [.int .i64 2] from rfl) (Reps.none _ _))));intro qEY w3 ho4 hb hg_ hnew_;clear hg_ hnew_;(first|rw [← qoq.out] at ho4|(simp only [Int.reduceToNat] at ho4;rw [← qoq.out] at ho4));have n0_:=Q1.mk (Kd.R_elder' (by (with_reducible repeat (first|apply Kd.R_alloc|apply Kd.R_drewN|apply Kd.R_drew));exact UV.out) (Kd.R_base ho4) hb);have n1_:=Q1.mk (Kd.R_lower (Kd.R_new' (Kd.R_newM (M:=fun k_=>(w.heap.size≤k_)) ho4 (Qe (by repeat (first|(with_reducible first|exact HB.out|apply Q2|apply Q0|apply Q5)|exact HB.out))) (fun k_ h_=>h_)) (Kd.R_lt (by (with_reducible repeat (first|apply Kd.R_alloc|apply Kd.R_drewN|apply Kd.R_drew));exact UV.out))) (Qe (by repeat (first|(with_reducible first|exact HB.out|apply Q2|apply Q0|apply Q5)|exact HB.out))));have n2_:=Q1.mk (Qh (by repeat (first|(with_reducible first|exact HB.out|apply Q2|apply Q0|apply Q5)|exact HB.out)) hb);clear UV HB;have UV:=n0_;have qaE:=n1_;have HB:=n2_;clear n0_ n1_ n2_ hb ho4)|((with_reducible refine QO (N:=3) rfl ?_);refine Kd.R_lit (Kd.int .i64) _ 3 ?hg (N:=3) ?hd (xs:=([2,3]:List Int)) (inner:=[.int .i64 2,.int .i64 3]) (ok:=fun _=>True) (okp:=fun _=>True) ?hr ?hp (fun _ hk=>hk) trivial (Below.refl _ _) (Nat.le_refl _) (by simp) ?_;(case hd=>rfl);(case hg=>rfl);(case hr=>first|(go_simp;done)|(go_simp;rfl));(case hp=>exact (Reps.one (show Kd.M (Kd.int .i64) _ _ _ 2 [.int .i64 2] from rfl) (Reps.one (show Kd.M (Kd.int .i64) _ _ _ 3 [.int .i64 3] from rfl) (Reps.none _ _))));intro qEZ w5 ho6 hb hg_ hnew_;clear hg_ hnew_;(first|rw [← qor.out] at ho6|(simp only [Int.reduceToNat] at ho6;rw [← qor.out] at ho6));have n0_:=Q1.mk (Kd.R_elder' (by (with_reducible repeat (first|apply Kd.R_alloc|apply Kd.R_drewN|apply Kd.R_drew));exact UV.out) (Kd.R_base ho6) hb);have n1_:=Q1.mk (Kd.R_elder' (by (with_reducible repeat (first|apply Kd.R_alloc|apply Kd.R_drewN|apply Kd.R_drew));exact qaE.out) (Kd.R_base ho6) hb);have n2_:=Q1.mk (Kd.R_lower (Kd.R_new' (Kd.R_new' (Kd.R_newM (M:=fun k_=>(w.heap.size≤k_)) ho6 (Qe (by repeat (first|(with_reducible first|exact HB.out|apply Q2|apply Q0|apply Q5)|exact HB.out))) (fun k_ h_=>h_)) (Kd.R_lt (by (with_reducible repeat (first|apply Kd.R_alloc|apply Kd.R_drewN|apply Kd.R_drew));exact UV.out))) (Kd.R_lt (by (with_reducible repeat (first|apply Kd.R_alloc|apply Kd.R_drewN|apply Kd.R_drew));exact qaE.out))) (Qe (by repeat (first|(with_reducible first|exact HB.out|apply Q2|apply Q0|apply Q5)|exact HB.out))));have n3_:=Q1.mk (Qh (by repeat (first|(with_reducible first|exact HB.out|apply Q2|apply Q0|apply Q5)|exact HB.out)) hb);clear UV qaE HB;have UV:=n0_;have qaE:=n1_;have qhM:=n2_;have HB:=n3_;clear n0_ n1_ n2_ n3_ hb ho6;obtain ⟨Ao7,co7,eo7⟩:=Kd.R_slice UV.out;subst eo7;obtain ⟨Ao8,co8,eo8⟩:=Kd.R_slice qaE.out;subst eo8;obtain ⟨Ao9,co9,eo9⟩:=Kd.R_slice qhM.out;subst eo9)|((with_reducible refine QO (N:=4) rfl ?_);refine Kd.N_lit (Kd.slice 3 (Kd.int .i64)) _ 37 ?hg (N':=4) ?hd (xs:=([qgg,qhB,qjE]:List (List Int))) (inner:=[.slice Ao7 qgg.length co7,.slice Ao8 qhB.length co8,.slice Ao9 qjE.length co9]) (ok:=(fun k_=>(w.heap.size≤k_))) (okp:=(fun k_=>(w.heap.size≤k_))) ?hr ?hp (fun _ hk=>hk) ((show ∀ k_,w5.heap.size≤k_→(fun k_=>(w.heap.size≤k_)) k_ from fun k_ hk=>(Nat.le_trans (Qe (by repeat (first|(with_reducible first|exact HB.out|apply Q2|apply Q0|apply Q5)|exact HB.out))) hk)) _ (Nat.le_refl _)) (Below.refl _ _) (Nat.le_refl _) (by simp) ?_;(case hd=>rfl);(case hg=>rfl);(case hr=>first|(go_simp;done)|(go_simp;rfl));(case hp=>exact (Reps.one (show Kd.FK (Kd.slice 3 (Kd.int .i64)) _ _ qgg [.slice Ao7 qgg.length co7] from (Kd.FK_slice_mk (Kd.R_reads' (Kd.R_mono (ok':=(fun k_=>(w.heap.size≤k_))) (UV.out) (fun k_ hk=>hk.1.1.1))).2.1 (Kd.R_F (Kd.R_mono (ok':=(fun k_=>(w.heap.size≤k_))) (UV.out) (fun k_ hk=>hk.1.1.1))))) (Reps.one (show Kd.FK (Kd.slice 3 (Kd.int .i64)) _ _ qhB [.slice Ao8 qhB.length co8] from (Kd.FK_slice_mk (Kd.R_reads' (Kd.R_mono (ok':=(fun k_=>(w.heap.size≤k_))) (qaE.out) (fun k_ hk=>hk.1.1.1))).2.1 (Kd.R_F (Kd.R_mono (ok':=(fun k_=>(w.heap.size≤k_))) (qaE.out) (fun k_ hk=>hk.1.1.1))))) (Reps.one (show Kd.FK (Kd.slice 3 (Kd.int .i64)) _ _ qjE [.slice Ao9 qjE.length co9] from (Kd.FK_slice_mk (Kd.R_reads' (Kd.R_mono (ok':=(fun k_=>(w.heap.size≤k_))) (qhM.out) (fun k_ hk=>hk.1.1.1))).2.1 (Kd.R_F (Kd.R_mono (ok':=(fun k_=>(w.heap.size≤k_))) (qhM.out) (fun k_ hk=>hk.1.1.1))))) (Reps.none _ _)))));intro qE0 w10 qkE hb hg_ hnew_;clear hg_ hnew_;(first|rw [← qot.out] at qkE|(simp only [Int.reduceToNat] at qkE;rw [← qot.out] at qkE));have n0_:=Q1.mk (Kd.N_lower qkE (Qe (by repeat (first|(with_reducible first|exact HB.out|apply Q2|apply Q0|apply Q5)|exact HB.out))));have n1_:=Q1.mk (Qh (by repeat (first|(with_reducible first|exact HB.out|apply Q2|apply Q0|apply Q5)|exact HB.out)) hb);clear HB UV qaE qhM;have qqP:=n0_;have HB:=n1_;clear n0_ n1_ hb qkE))
 go_ret
 exact ⟨_,by first|rfl|(simp [Qp,Qq]<;>rfl)|(simp [*,Qp,Qq]<;>rfl),by (with_reducible repeat (first|apply Kd.N_alloc|apply Kd.N_drewN|apply Kd.N_drew));exact qqP.out,by repeat (first|(with_reducible first|exact HB.out|apply Q2|apply Q0|apply Q5)|exact HB.out)⟩
end
section
set_option maxRecDepth 100000
def qb2:List S68:=[⟨30,⟨2,2⟩⟩,⟨20,⟨3,4⟩⟩,⟨10,⟨4,6⟩⟩]
def qdt:List (List S25):=[[⟨60,70⟩,⟨30,40⟩],[⟨20,30⟩,⟨70,80⟩]]
def qgB:List S25:=[⟨45,50⟩,⟨50,55⟩]
def qb0:S39:=⟨[100,50,20],[800,700,500],[0,1,2],60,1⟩
def qb1:S39:=⟨[60,60],[500,500],[1,1],50,0⟩
def qkl:List ZU:=[⟨50,8⟩,⟨30,5⟩,⟨20,1⟩,⟨10,4⟩]
def qds:List (List Int):=[[0,1],[1,2],[2,3]]
def Ut:List (List (List Int)):=[[[90,80],[10,10]],[[0,0],[0,0]]]
theorem qi4:JM.f=some qb2:=by kernel_rfl
theorem qks:JY.f=some qdt:=by kernel_rfl
theorem qlM:G9.f=some qgB:=by kernel_rfl
theorem qi3:ZR.f=some ([100,50,20],[800,700,500],[0,1,2],60,1):=by kernel_rfl
theorem qb3:Jm.f=some ([qb0,qb1],[40,80],Ut):=by kernel_rfl
theorem qpp:Gy.f=some qkl:=by kernel_rfl
theorem qkr:JX.f=some qds:=by kernel_rfl
theorem qlK:QS.f 40 qb2 4 6=some (10,30,0):=by kernel_rfl
theorem qlL:QD.f 20 [100,50,20] [800,700,500] [0,1,2] 60 1 [30,30] [90,80]=some ([40,78],0):=by kernel_rfl
theorem qko:Zd.f 40 [qb0,qb1] [40,80] Ut=some (7,0):=by kernel_rfl
theorem qkn:YD.f 40 [qb0,qb1] [40,80] Ut 8=some (1,1,1,0):=by kernel_rfl
theorem qkp:YT.f 10 [40,78] [40,78]=some true:=by kernel_rfl
theorem qkq:YT.f 10 [0,2] [0,2]=some true:=by kernel_rfl
theorem qdu:QN.f 10 [⟨38,75⟩,⟨25,62⟩] [⟨38,75⟩,⟨25,62⟩]=some true:=by kernel_rfl
theorem qkm:Qw.f qkl qds 2=some ([0,2],110,18,0):=by kernel_rfl
theorem qi2:Qi.f 20 qdt qgB=some ([⟨38,75⟩,⟨25,62⟩],0):=by kernel_rfl
end
section
attribute [local go_sem high] qki
def Zf.f:Option Bool:=some true
structure qj0 (p:Prop):Prop where
 out:p
theorem V_C {α:Type} {d:Kd α} {e:Nat} {w:World} {b:Nat} {ok:Nat→Prop} {v:Value} {xs:List α} (h:Kd.V d e w b ok v xs):∃ A c,v = .slice A xs.length c∧xs.length≤c∧Kd.C d w A xs.length xs:=by
 obtain ⟨A,c,hv,hl,hf⟩:=h
 exact ⟨A,c,hv,hl,Kd.F_now hf⟩
theorem qeU {W:World} {o:Obj} {k:Nat} (h:W.heap.size=k):(W.alloc o).heap[k]? = some o:=by subst h;exact World.alloc_heap_new W o
theorem qhC {W:World} {g:Nat} {a b:Int} (h:W.heap[g]? = some (.cells #[.int .i64 a,.int .i64 b] 3 (0,0))):Kd.C (Kd.int .i64) W (some ⟨g,0,none⟩) 2 [a,b]:=by
 refine ⟨rfl,by decide,fun _=>⟨_,rfl,fun j p hj=>⟨[.int .i64 p],rfl,rfl,fun i u hu => ?_⟩⟩⟩
 have hj2:j<2:=(List.getElem?_eq_some_iff.1 hj).1
 have hi:i=0:=by have:=(List.getElem?_eq_some_iff.1 hu).1;simpa using this
 subst hi
 have hu2:Value.int .i64 p=u:=by simpa using hu
 rw [KM,Q8 h]
 subst hu2
 match j,hj2,hj with
 | 0,_,hj=>cases hj;rfl
 | 1,_,hj=>cases hj;rfl
theorem qln {W:World} {g:Nat} {a b a' b':Int} (h:W.heap[g]? = some (.cells #[.int .i64 a,.int .i64 b,.int .i64 a',.int .i64 b'] 25 (0,0))):Kd.C k25 W (some ⟨g,0,none⟩) 2 [⟨a,b⟩,⟨a',b'⟩]:=by
 refine ⟨rfl,by decide,fun _=>⟨_,rfl,fun j p hj=>⟨[.int .i64 p.f0,.int .i64 p.f1],rfl,qkO _ _,fun i u hu => ?_⟩⟩⟩
 have hj2:j<2:=(List.getElem?_eq_some_iff.1 hj).1
 have hi:i<2:=(List.getElem?_eq_some_iff.1 hu).1
 rw [KM,Q8 h]
 match j,hj2,hj,i,hi,hu with
 | 0,_,hj,0,_,hu=>cases hj;cases hu;rfl
 | 0,_,hj,1,_,hu=>cases hj;cases hu;rfl
 | 1,_,hj,0,_,hu=>cases hj;cases hu;rfl
 | 1,_,hj,1,_,hu=>cases hj;cases hu;rfl
set_option maxHeartbeats 8000000 in
set_option maxRecDepth 100000 in
theorem Zf.calls (r:Bool) (w:World) (h:Zf.f=some r) :
  Calls Try.prog 21 #[] w fun e w'=>e = .returned (.bool r)∧Below w.heap.size w w':=by
 obtain rfl:true=r:=Option.some.inj h
 clear h
 have WA:=Try.underlying25
 go_enter Try.func21,Try.ntmps21
 have B0:=Below.refl w.heap.size w
 go_wp2_with (first
  | (go_at_call 59;refine (JM.calls _ _ qi4).mono ?_;rintro e w1 ⟨v,rfl,hv,hb1⟩;obtain ⟨A1,c1,rfl,hc1,hC1⟩:=Kd.R_reads hv;have B1:=B0.trans (hb1.mono B0.size);clear hv hb1)
  | (go_at_call 19;refine (QS.calls 40 A1 c1 qb2 4 6 10 30 0 _ hC1 hc1 qlK).mono ?_;rintro e w2 ⟨rfl,hb2⟩;have B2:=B1.trans (hb2.mono B1.size);clear hC1 hc1 hb2)
  | (go_at_call 61;refine (JY.calls _ _ qks).mono ?_;rintro e w3 ⟨v,rfl,hv,hb3⟩;obtain ⟨A3,c3,rfl,hc3,hC3⟩:=Kd.N_reads hv;have B3:=(Q2 B2 _).trans (hb3.mono (Q2 B2 _).size);have K3:=Qf (World.alloc_heap_new w2 _) hb3;clear hv)
  | (go_at_call 60;refine (G9.calls _ _ qlM).mono ?_;rintro e w4 ⟨v,rfl,hv,hb4⟩;obtain ⟨A4,c4,rfl,hc4,hC4⟩:=Kd.R_reads hv;have B4:=B3.trans (hb4.mono B3.size);have qrv:=Kd.C_below hC3 hb4;have K4:=Qf K3 hb4;clear hv)
  | (go_at_call 22;refine (Qi.calls 20 A3 c3 qdt A4 c4 qgB [⟨38,75⟩,⟨25,62⟩] 0 _ qrv hc3 hC4 hc4 qi2).mono ?_;rintro e w5 ⟨v,rfl,hv,hb5⟩;obtain ⟨A5,c5,rfl,hc5,hC5⟩:=V_C hv;have B5:=B4.trans (hb5.mono B4.size);have K5:=Qf K4 hb5;clear K3 K4 hC3 qrv hC4 hc3 hc4 hv hb3 hb4 hb5)
  | (go_at_call 57;refine (ZR.calls _ _ _ _ _ _ qi3).mono ?_;rintro e w6 ⟨u0,u1,u2,rfl,h0,h1,h2,hb6⟩;obtain ⟨A60,c60,rfl,qrJ,qrA⟩:=Kd.R_reads h0;obtain ⟨A61,c61,rfl,qrK,qrB⟩:=Kd.R_reads h1;obtain ⟨A62,c62,rfl,qrL,qrC⟩:=Kd.R_reads h2;have B6:=B5.trans (hb6.mono B5.size);have K6:=Qf K5 hb6;have qrw:=Kd.C_below hC5 hb6;clear K5 h0 h1 h2 hC5 hb6)
  | (go_at_call 25;refine (QD.calls 20 A60 c60 [100,50,20] A61 c61 [800,700,500] A62 c62 [0,1,2] 60 1 _ 2 [30,30] _ 2 [90,80] [40,78] 0 _ ?q1 qrJ ?q2 qrK ?q3 qrL ?q4 (Nat.le_refl 2) ?q5 (Nat.le_refl 2) qlL).mono ?_;(case q1=>exact Kd.C_alloc (Kd.C_alloc qrA _) _);(case q2=>exact Kd.C_alloc (Kd.C_alloc qrB _) _);(case q3=>exact Kd.C_alloc (Kd.C_alloc qrC _) _);(case q4=>exact qhC (Q3 (World.alloc_heap_new w6 _) _));(case q5=>refine qhC ?_;(have:=World.alloc_heap_new (w6.alloc (.cells #[.int .i64 30,.int .i64 30] 3)) (.cells #[.int .i64 90,.int .i64 80] 3));rwa [World.size_alloc] at this);rintro e w7 ⟨v,rfl,hv,hb7⟩;obtain ⟨A7,c7,rfl,hc7,hC7⟩:=V_C hv;have B7:=(Q2 (Q2 B6 _) _).trans (hb7.mono (Q2 (Q2 B6 _) _).size);have K7:=Qf (Q3 (Q3 K6 _) _) hb7;have qrx:=Kd.C_below (Kd.C_alloc (Kd.C_alloc qrw _) _) hb7;clear qrA qrB qrC qrJ qrK qrL qrw K6 hv hb7)
  | (go_at_call 58;refine (Jm.calls _ _ _ _ qb3).mono ?_;rintro e w8 ⟨u0,u1,u2,rfl,h0,h1,h2,hb8⟩;obtain ⟨A80,c80,rfl,qkw,qkt⟩:=Kd.N_reads h0;obtain ⟨A81,c81,rfl,qkx,qku⟩:=Kd.R_reads h1;obtain ⟨A82,c82,rfl,qky,qkv⟩:=Kd.N_reads h2;have B8:=B7.trans (hb8.mono B7.size);have K8:=Qf K7 hb8;have qry:=Kd.C_below qrx hb8;have qrE:=Kd.C_below hC7 hb8;clear h0 h1 h2 qrx hC7 K7 hb8)
  | (go_at_call 28;refine (Zd.calls 40 A80 c80 [qb0,qb1] A81 c81 [40,80] A82 c82 Ut 7 0 _ qkt qkw qku qkx qkv qky qko).mono ?_;rintro e w9 ⟨rfl,hb9⟩;have B9:=B8.trans (hb9.mono B8.size);have K9:=Qf K8 hb9;have qrz:=Kd.C_below qry hb9;have qrF:=Kd.C_below qrE hb9;clear qkt qku qkv qkw qkx qky qry qrE K8 hb9))
 have hSb:∀ z:World,Below w9.heap.size w9 z→z.cell? ⟨w2.heap.size,0,none⟩=some (.int .i64 10)∧z.cell? ⟨w2.heap.size,1,none⟩=some (.int .i64 30)∧Below w9.heap.size w9 z:=fun z hz =>
  ⟨(Q8 (Qf K9 hz) 0).trans rfl,(Q8 (Qf K9 hz) 1).trans rfl,hz⟩
 have HSb:=Q1.mk hSb
 have H59:=Q1.mk qrz
 have H79:=Q1.mk qrF
 have HB9:=Q1.mk B9
 clear hSb qrz qrF B0 B1 B2 B3 B4 B5 B6 B7 B8 B9 K9
 go_region_held3 (fun z=>z.cell? ⟨w2.heap.size,0,none⟩=some (.int .i64 10)∧z.cell? ⟨w2.heap.size,1,none⟩=some (.int .i64 30)∧Below w9.heap.size w9 z)
  (first|exact HSb.out _ (Yi (Below.refl _ _))|(refine HSb.out _ (Q2 ?hk _);(case hk=>exact (And.right (And.right ‹_∧_∧Below w9.heap.size w9 _›))))|(refine HSb.out _ (Q0 ?hk _);(case hk=>exact (And.right (And.right ‹_∧_∧Below w9.heap.size w9 _›))))|(refine HSb.out _ (Below.trans ?hk1 (hbz.mono ?hk2));(case hk1=>exact (And.right (And.right ‹_∧_∧Below w9.heap.size w9 _›)));(case hk2=>exact (And.right (And.right ‹_∧_∧Below w9.heap.size w9 _›)).size)))
  (first
   | (go_at_call 43;refine (QB.calls _ _ _ _ _ rfl).mono ?_;rintro e wz ⟨rfl,hbz⟩)
   | (go_at_call 24;refine (QN.calls 10 A5 c5 [⟨38,75⟩,⟨25,62⟩] _ 2 [⟨38,75⟩,⟨25,62⟩] true _ ?q1 hc5 ?q2 (Nat.le_refl 2) qdu).mono ?_;(case q1=>refine Kd.C_below H59.out ?hk;(case hk=>exact (And.right (And.right ‹_∧_∧Below w9.heap.size w9 _›))));(case q2=>refine qln ?_;exact World.alloc_heap_new _ _);rintro e wz ⟨rfl,⟨nd,rfl⟩⟩)
   | (go_at_call 27;refine (YT.calls 10 A7 c7 [40,78] _ 2 [40,78] true _ ?q1 hc7 ?q2 (Nat.le_refl 2) qkp).mono ?_;(case q1=>refine Kd.C_below H79.out ?hk;(case hk=>exact (And.right (And.right ‹_∧_∧Below w9.heap.size w9 _›))));(case q2=>refine qhC (qeU ?hs);(case hs=>first|rfl|exact World.size_alloc _ _));rintro e wz ⟨rfl,⟨nd,rfl⟩⟩))
 go_wp2_with (go_at_call 58;refine qj0.out ?_)
 refine qj0.mk ?_
 refine (Jm.calls _ _ _ _ qb3).mono ?_
 rintro e wa ⟨u0,u1,u2,rfl,h0,h1,h2,hba⟩
 have Ba:Below w.heap.size w wa:=by
  refine Below.trans ?_ (hba.mono ?_)
  ·
   exact HB9.out.trans ((And.right (And.right ‹_∧_∧Below w9.heap.size w9 _›)).mono HB9.out.size)
  ·
   exact (HB9.out.trans ((And.right (And.right ‹_∧_∧Below w9.heap.size w9 _›)).mono HB9.out.size)).size
 obtain ⟨A80,c80,rfl,qkw,qkt⟩:=Kd.N_reads h0
 obtain ⟨A81,c81,rfl,qkx,qku⟩:=Kd.R_reads h1
 obtain ⟨A82,c82,rfl,qky,qkv⟩:=Kd.N_reads h2
 clear h0 h1 h2 hba
 go_wp2_with (first
  | (go_at_call 32;refine (YD.calls 40 A80 c80 [qb0,qb1] A81 c81 [40,80] A82 c82 Ut 8 1 1 1 0 _ qkt qkw qku qkx qkv qky qkn).mono ?_;rintro e wb ⟨rfl,hbb⟩;have Bb:=Ba.trans (hbb.mono Ba.size);clear qkt qku qkv qkw qkx qky hbb)
  | (go_at_call 62;refine (Gy.calls _ _ qpp).mono ?_;rintro e wc ⟨v,rfl,hv,hbc⟩;obtain ⟨Ac,cc,rfl,hcc,hCc⟩:=Kd.R_reads hv;have Bc:=Bb.trans (hbc.mono Bb.size);clear hv hbc)
  | (go_at_call 63;refine (JX.calls _ _ qkr).mono ?_;rintro e wd ⟨v,rfl,hv,hbd⟩;obtain ⟨Ad,cd,rfl,hcd,hCd⟩:=Kd.N_reads hv;have Bd:=Bc.trans (hbd.mono Bc.size);have hCc':=Kd.C_below hCc hbd;clear hv hbd hCc)
  | (go_at_call 40;refine (Qw.calls Ac cc qkl Ad cd qds 2 [0,2] 110 18 0 _ hCc' hcc hCd hcd qkm).mono ?_;rintro e we ⟨v,rfl,hv,hbe⟩;obtain ⟨Ae,ce,rfl,hce,hCe⟩:=V_C hv;have Be:=Bd.trans (hbe.mono Bd.size);clear hv hbe hCc' hCd hcc hcd)
  | (go_at_call 27;refine (YT.calls 10 Ae ce [0,2] _ 2 [0,2] true _ ?q1 hce ?q2 (Nat.le_refl 2) qkq).mono ?_;(case q1=>exact Kd.C_alloc hCe _);(case q2=>refine qhC (qeU ?hs);(case hs=>rfl));rintro e wf ⟨rfl,⟨ndf,rfl⟩⟩))
 go_ret
 exact ⟨rfl,Q0 (Q2 Be _) _⟩
end
section
attribute [local go_sem] YH YJ Z0 Z1 Yr Ys YI YK
def Ji.f (k:Nat) (l0:List (List (S25))) (l1:List (S25)):Option (Bool):=(Qi.f k l0 l1).bind fun qeZ=>((Qc.f k l0 l1).bind fun qaK=>((QN.f k qeZ.1 qaK.1).bind fun qcQ=>(if qcQ=true then (if qeZ.2=qaK.2 then ((Zf.f).bind fun qae=>(some qae)) else (some false)) else (some false))))
set_option maxHeartbeats 8000000 in
set_option maxRecDepth 100000 in
theorem Ji.calls (k:Nat) (A0:Option Addr) (c0:Nat) (l0:List (List (S25))) (A1:Option Addr) (c1:Nat) (l1:List (S25)) (r:Bool) (w:World) (hr0:Kd.C (Kd.slice 25 k25) w A0 l0.length l0) (hc0:l0.length≤c0) (hr1:Kd.C k25 w A1 l1.length l1) (hc1:l1.length≤c1) (h:Ji.f k l0 l1=some r) :
  Calls Try.prog 4 #[.slice A0 l0.length c0,.slice A1 l1.length c1] w fun e w'=>e = .returned (.bool r)∧Below w.heap.size w w':=by
 have HR0:=Q1.mk hr0
 have HC0:=Q1.mk hc0
 clear hr0 hc0
 have HR1:=Q1.mk hr1
 have HC1:=Q1.mk hc1
 clear hr1 hc1
 have HB:=Q1.mk (Below.refl w.heap.size w)
 have H:((Qi.f k l0 l1).bind fun qeZ=>((Qc.f k l0 l1).bind fun qaK=>((QN.f k qeZ.1 qaK.1).bind fun qcQ=>(if qcQ=true then (if qeZ.2=qaK.2 then ((Zf.f).bind fun qae=>(some qae)) else (some false)) else (some false)))))=some r:=h
 clear h
 replace H:=Option.bind_eq_some_iff.mp H
 obtain ⟨⟨qcn,qaZ⟩,A30,H⟩:=H
 replace H:((Qc.f k l0 l1).bind fun qaK=>((QN.f k qcn qaK.1).bind fun qcQ=>(if qcQ=true then (if qaZ=qaK.2 then ((Zf.f).bind fun qae=>(some qae)) else (some false)) else (some false))))=some r:=H
 have A3:=Q1.mk A30
 clear A30
 replace H:=Option.bind_eq_some_iff.mp H
 obtain ⟨⟨qcP,qco⟩,A40,H⟩:=H
 replace H:((QN.f k qcn qcP).bind fun qcQ=>(if qcQ=true then (if qaZ=qco then ((Zf.f).bind fun qae=>(some qae)) else (some false)) else (some false)))=some r:=H
 have A4:=Q1.mk A40
 clear A40
 replace H:=Option.bind_eq_some_iff.mp H
 obtain ⟨qcQ,A50,H⟩:=H
 replace H:(if qcQ=true then (if qaZ=qco then ((Zf.f).bind fun qae=>(some qae)) else (some false)) else (some false))=some r:=H
 have A5:=Q1.mk A50
 clear A50
 by_cases c6:qcQ=true
 ·
  subst c6
  have H1:(if qaZ=qco then ((Zf.f).bind fun qae=>(some qae)) else (some false))=some r:=by rw [if_pos rfl] at H;exact H
  clear H
  have H:=H1
  clear H1
  by_cases c7:qaZ=qco
  ·
   rw [if_pos c7] at H
   have c7b0:(qaZ==qco)=true:=beq_iff_eq.mpr c7
   have c7b1:(qaZ != qco)=false:=bne_eq_false_iff_eq.mpr c7
   clear c7
   replace H:=Option.bind_eq_some_iff.mp H
   obtain ⟨qae,A80,H⟩:=H
   replace H:(some qae)=some r:=H
   have A8:=Q1.mk A80
   clear A80
   obtain rfl:=Option.some.inj H
   go_enter Try.func4,Try.ntmps4
   go_wp2_with (first|((with_reducible refine Qs (f:=22) rfl ?_);refine Yj (some 12) rfl rfl Try.func22 (by kernel_rfl) rfl #[.slice A0 l0.length c0,.slice A1 l1.length c1] rfl (by (try simp only [List.map_toArray,List.map_cons,List.map_nil]);first|done|rfl|(simp only [List.length_drop,List.length_take];rfl)) ?_;(with_reducible refine (Qi.calls k _ _ l0 _ _ l1 qcn qaZ _ ?side1 ?side2 ?side3 ?side4 A3.out).mono ?_);(case side1=>repeat (first|exact HR0.out|(with_reducible refine Kd.C_alloc ?_ _)|(with_reducible refine Kd.C_drewN ?_ _)|(with_reducible refine Kd.C_drew ?_)));(case side2=>exact HC0.out);(case side3=>repeat (first|exact HR1.out|(with_reducible refine Kd.C_alloc ?_ _)|(with_reducible refine Kd.C_drewN ?_ _)|(with_reducible refine Kd.C_drew ?_)));(case side4=>exact HC1.out);rintro e w9 ⟨qtr,rfl,ho0,hb⟩;refine ⟨_,rfl,?_⟩;have n0_:=Q1.mk (Kd.V_lower (Kd.V_mono (ok':=fun k_=>True) ho0 (fun k_ hk_=>trivial)) (Qe (by repeat (first|(with_reducible first|exact HB.out|apply Q2|apply Q0|apply Q5)|exact HB.out))));have n1_:=Q1.mk (Qh (by repeat (first|(with_reducible first|exact HB.out|apply Q2|apply Q0|apply Q5)|exact HB.out)) hb);clear HB;have Gm:=n0_;have HB:=n1_;clear n0_ n1_;(try clear hb);(try clear hb2);(try clear hk);(try clear hi);(try clear ho0))|((with_reducible refine Qs (f:=23) rfl ?_);refine Yj (some 18) rfl rfl Try.func23 (by kernel_rfl) rfl #[.slice A0 l0.length c0,.slice A1 l1.length c1] rfl (by (try simp only [List.map_toArray,List.map_cons,List.map_nil]);first|done|rfl|(simp only [List.length_drop,List.length_take];rfl)) ?_;(with_reducible refine (Qc.calls k _ _ l0 _ _ l1 qcP qco _ ?side1 ?side2 ?side3 ?side4 A4.out).mono ?_);(case side1=>repeat (first|exact (Kd.C_below HR0.out HB.out)|(with_reducible refine Kd.C_alloc ?_ _)|(with_reducible refine Kd.C_drewN ?_ _)|(with_reducible refine Kd.C_drew ?_)));(case side2=>exact HC0.out);(case side3=>repeat (first|exact (Kd.C_below HR1.out HB.out)|(with_reducible refine Kd.C_alloc ?_ _)|(with_reducible refine Kd.C_drewN ?_ _)|(with_reducible refine Kd.C_drew ?_)));(case side4=>exact HC1.out);rintro e w10 ⟨qts,rfl,ho0,hb⟩;refine ⟨_,rfl,?_⟩;have n0_:=Q1.mk (Kd.V_elder' (by (with_reducible repeat (first|apply Kd.V_alloc|apply Kd.V_drewN|apply Kd.V_drew));exact Gm.out) (Kd.R_base ho0) hb);have n1_:=Q1.mk (Kd.R_lower ho0 (Qe (by repeat (first|(with_reducible first|exact HB.out|apply Q2|apply Q0|apply Q5)|exact HB.out))));have n2_:=Q1.mk (Qh (by repeat (first|(with_reducible first|exact HB.out|apply Q2|apply Q0|apply Q5)|exact HB.out)) hb);clear Gm HB;have Gm:=n0_;have OG:=n1_;have HB:=n2_;clear n0_ n1_ n2_;(try clear hb);(try clear hb2);(try clear hk);(try clear hi);(try clear ho0);obtain ⟨qli,qlD,qpj⟩:=Kd.V_slice Gm.out;subst qpj;obtain ⟨qzy,qzR,qAe⟩:=Kd.R_slice OG.out;subst qAe)|((with_reducible refine Qs (f:=24) rfl ?_);refine Yj (some 23) rfl rfl Try.func24 (by kernel_rfl) rfl #[.slice qli qcn.length qlD,.slice qzy qcP.length qzR] rfl (by (try simp only [List.map_toArray,List.map_cons,List.map_nil]);first|done|rfl|(simp only [List.length_drop,List.length_take];rfl)) ?_;(with_reducible refine (QN.calls k _ _ qcn _ _ qcP true _ ?side1 ?side2 ?side3 ?side4 A5.out).mono ?_);(case side1=>repeat (first|exact (Kd.V_reads' Gm.out).2.2|(with_reducible refine Kd.C_alloc ?_ _)|(with_reducible refine Kd.C_drewN ?_ _)|(with_reducible refine Kd.C_drew ?_)));(case side2=>exact (Kd.V_reads' Gm.out).2.1);(case side3=>repeat (first|exact (Kd.R_reads' OG.out).2.2|(with_reducible refine Kd.C_alloc ?_ _)|(with_reducible refine Kd.C_drewN ?_ _)|(with_reducible refine Kd.C_drew ?_)));(case side4=>exact (Kd.R_reads' OG.out).2.1);rintro e w' ⟨rfl,⟨nd,rfl⟩⟩;refine ⟨_,rfl,?_⟩)|(go_at_call 21;(with_reducible refine (Zf.calls  qae _ A8.out).mono ?_);rintro e w13 ⟨rfl,hb⟩;have n0_:=Q1.mk (Kd.V_below (by (with_reducible repeat (first|apply Kd.V_alloc|apply Kd.V_drewN|apply Kd.V_drew));exact Gm.out) hb);have n1_:=Q1.mk (Kd.R_below (by (with_reducible repeat (first|apply Kd.R_alloc|apply Kd.R_drewN|apply Kd.R_drew));exact OG.out) hb);have n2_:=Q1.mk (Qh (by repeat (first|(with_reducible first|exact HB.out|apply Q2|apply Q0|apply Q5)|exact HB.out)) hb);clear Gm OG HB;have Gm:=n0_;have OG:=n1_;have HB:=n2_;clear n0_ n1_ n2_;(try clear hb);(try clear hb2);(try clear hk);(try clear hi)))
   go_ret
   exact ⟨by first|rfl|(simp [Qp,Qq]<;>rfl)|(simp [*,Qp,Qq]<;>rfl),by repeat (first|(with_reducible first|exact HB.out|apply Q2|apply Q0|apply Q5)|exact HB.out)⟩
  rw [if_neg c7] at H
  have c7b0:(qaZ==qco)=false:=beq_eq_false_iff_ne.mpr c7
  have c7b1:(qaZ != qco)=true:=bne_iff_ne.mpr c7
  obtain rfl:=Option.some.inj H
  go_enter Try.func4,Try.ntmps4
  go_wp2_with (first|((with_reducible refine Qs (f:=22) rfl ?_);refine Yj (some 12) rfl rfl Try.func22 (by kernel_rfl) rfl #[.slice A0 l0.length c0,.slice A1 l1.length c1] rfl (by (try simp only [List.map_toArray,List.map_cons,List.map_nil]);first|done|rfl|(simp only [List.length_drop,List.length_take];rfl)) ?_;(with_reducible refine (Qi.calls k _ _ l0 _ _ l1 qcn qaZ _ ?side1 ?side2 ?side3 ?side4 A3.out).mono ?_);(case side1=>repeat (first|exact HR0.out|(with_reducible refine Kd.C_alloc ?_ _)|(with_reducible refine Kd.C_drewN ?_ _)|(with_reducible refine Kd.C_drew ?_)));(case side2=>exact HC0.out);(case side3=>repeat (first|exact HR1.out|(with_reducible refine Kd.C_alloc ?_ _)|(with_reducible refine Kd.C_drewN ?_ _)|(with_reducible refine Kd.C_drew ?_)));(case side4=>exact HC1.out);rintro e w14 ⟨qtr,rfl,ho0,hb⟩;refine ⟨_,rfl,?_⟩;have n0_:=Q1.mk (Kd.V_lower (Kd.V_mono (ok':=fun k_=>True) ho0 (fun k_ hk_=>trivial)) (Qe (by repeat (first|(with_reducible first|exact HB.out|apply Q2|apply Q0|apply Q5)|exact HB.out))));have n1_:=Q1.mk (Qh (by repeat (first|(with_reducible first|exact HB.out|apply Q2|apply Q0|apply Q5)|exact HB.out)) hb);clear HB;have Gm:=n0_;have HB:=n1_;clear n0_ n1_;(try clear hb);(try clear hb2);(try clear hk);(try clear hi);(try clear ho0))|((with_reducible refine Qs (f:=23) rfl ?_);refine Yj (some 18) rfl rfl Try.func23 (by kernel_rfl) rfl #[.slice A0 l0.length c0,.slice A1 l1.length c1] rfl (by (try simp only [List.map_toArray,List.map_cons,List.map_nil]);first|done|rfl|(simp only [List.length_drop,List.length_take];rfl)) ?_;(with_reducible refine (Qc.calls k _ _ l0 _ _ l1 qcP qco _ ?side1 ?side2 ?side3 ?side4 A4.out).mono ?_);(case side1=>repeat (first|exact (Kd.C_below HR0.out HB.out)|(with_reducible refine Kd.C_alloc ?_ _)|(with_reducible refine Kd.C_drewN ?_ _)|(with_reducible refine Kd.C_drew ?_)));(case side2=>exact HC0.out);(case side3=>repeat (first|exact (Kd.C_below HR1.out HB.out)|(with_reducible refine Kd.C_alloc ?_ _)|(with_reducible refine Kd.C_drewN ?_ _)|(with_reducible refine Kd.C_drew ?_)));(case side4=>exact HC1.out);rintro e w15 ⟨qts,rfl,ho0,hb⟩;refine ⟨_,rfl,?_⟩;have n0_:=Q1.mk (Kd.V_elder' (by (with_reducible repeat (first|apply Kd.V_alloc|apply Kd.V_drewN|apply Kd.V_drew));exact Gm.out) (Kd.R_base ho0) hb);have n1_:=Q1.mk (Kd.R_lower ho0 (Qe (by repeat (first|(with_reducible first|exact HB.out|apply Q2|apply Q0|apply Q5)|exact HB.out))));have n2_:=Q1.mk (Qh (by repeat (first|(with_reducible first|exact HB.out|apply Q2|apply Q0|apply Q5)|exact HB.out)) hb);clear Gm HB;have Gm:=n0_;have OG:=n1_;have HB:=n2_;clear n0_ n1_ n2_;(try clear hb);(try clear hb2);(try clear hk);(try clear hi);(try clear ho0);obtain ⟨qzz,qzS,qAi⟩:=Kd.V_slice Gm.out;subst qAi;obtain ⟨qzA,qzT,qAj⟩:=Kd.R_slice OG.out;subst qAj)|((with_reducible refine Qs (f:=24) rfl ?_);refine Yj (some 23) rfl rfl Try.func24 (by kernel_rfl) rfl #[.slice qzz qcn.length qzS,.slice qzA qcP.length qzT] rfl (by (try simp only [List.map_toArray,List.map_cons,List.map_nil]);first|done|rfl|(simp only [List.length_drop,List.length_take];rfl)) ?_;(with_reducible refine (QN.calls k _ _ qcn _ _ qcP true _ ?side1 ?side2 ?side3 ?side4 A5.out).mono ?_);(case side1=>repeat (first|exact (Kd.V_reads' Gm.out).2.2|(with_reducible refine Kd.C_alloc ?_ _)|(with_reducible refine Kd.C_drewN ?_ _)|(with_reducible refine Kd.C_drew ?_)));(case side2=>exact (Kd.V_reads' Gm.out).2.1);(case side3=>repeat (first|exact (Kd.R_reads' OG.out).2.2|(with_reducible refine Kd.C_alloc ?_ _)|(with_reducible refine Kd.C_drewN ?_ _)|(with_reducible refine Kd.C_drew ?_)));(case side4=>exact (Kd.R_reads' OG.out).2.1);rintro e w' ⟨rfl,⟨nd,rfl⟩⟩;refine ⟨_,rfl,?_⟩))
  go_ret
  exact ⟨by first|rfl|(simp [Qp,Qq]<;>rfl)|(simp [*,Qp,Qq]<;>rfl),by repeat (first|(with_reducible first|exact HB.out|apply Q2|apply Q0|apply Q5)|exact HB.out)⟩
 replace c6:=Bool.eq_false_iff.mpr c6
 subst c6
 have H1:(some false)=some r:=by rw [if_neg (show ¬ (false=true) by decide)] at H;exact H
 clear H
 have H:=H1
 clear H1
 obtain rfl:=Option.some.inj H
 go_enter Try.func4,Try.ntmps4
 go_wp2_with (first|((with_reducible refine Qs (f:=22) rfl ?_);refine Yj (some 12) rfl rfl Try.func22 (by kernel_rfl) rfl #[.slice A0 l0.length c0,.slice A1 l1.length c1] rfl (by (try simp only [List.map_toArray,List.map_cons,List.map_nil]);first|done|rfl|(simp only [List.length_drop,List.length_take];rfl)) ?_;(with_reducible refine (Qi.calls k _ _ l0 _ _ l1 qcn qaZ _ ?side1 ?side2 ?side3 ?side4 A3.out).mono ?_);(case side1=>repeat (first|exact HR0.out|(with_reducible refine Kd.C_alloc ?_ _)|(with_reducible refine Kd.C_drewN ?_ _)|(with_reducible refine Kd.C_drew ?_)));(case side2=>exact HC0.out);(case side3=>repeat (first|exact HR1.out|(with_reducible refine Kd.C_alloc ?_ _)|(with_reducible refine Kd.C_drewN ?_ _)|(with_reducible refine Kd.C_drew ?_)));(case side4=>exact HC1.out);rintro e w18 ⟨qtr,rfl,ho0,hb⟩;refine ⟨_,rfl,?_⟩;have n0_:=Q1.mk (Kd.V_lower (Kd.V_mono (ok':=fun k_=>True) ho0 (fun k_ hk_=>trivial)) (Qe (by repeat (first|(with_reducible first|exact HB.out|apply Q2|apply Q0|apply Q5)|exact HB.out))));have n1_:=Q1.mk (Qh (by repeat (first|(with_reducible first|exact HB.out|apply Q2|apply Q0|apply Q5)|exact HB.out)) hb);clear HB;have Gm:=n0_;have HB:=n1_;clear n0_ n1_;(try clear hb);(try clear hb2);(try clear hk);(try clear hi);(try clear ho0))|((with_reducible refine Qs (f:=23) rfl ?_);refine Yj (some 18) rfl rfl Try.func23 (by kernel_rfl) rfl #[.slice A0 l0.length c0,.slice A1 l1.length c1] rfl (by (try simp only [List.map_toArray,List.map_cons,List.map_nil]);first|done|rfl|(simp only [List.length_drop,List.length_take];rfl)) ?_;(with_reducible refine (Qc.calls k _ _ l0 _ _ l1 qcP qco _ ?side1 ?side2 ?side3 ?side4 A4.out).mono ?_);(case side1=>repeat (first|exact (Kd.C_below HR0.out HB.out)|(with_reducible refine Kd.C_alloc ?_ _)|(with_reducible refine Kd.C_drewN ?_ _)|(with_reducible refine Kd.C_drew ?_)));(case side2=>exact HC0.out);(case side3=>repeat (first|exact (Kd.C_below HR1.out HB.out)|(with_reducible refine Kd.C_alloc ?_ _)|(with_reducible refine Kd.C_drewN ?_ _)|(with_reducible refine Kd.C_drew ?_)));(case side4=>exact HC1.out);rintro e w19 ⟨qts,rfl,ho0,hb⟩;refine ⟨_,rfl,?_⟩;have n0_:=Q1.mk (Kd.V_elder' (by (with_reducible repeat (first|apply Kd.V_alloc|apply Kd.V_drewN|apply Kd.V_drew));exact Gm.out) (Kd.R_base ho0) hb);have n1_:=Q1.mk (Kd.R_lower ho0 (Qe (by repeat (first|(with_reducible first|exact HB.out|apply Q2|apply Q0|apply Q5)|exact HB.out))));have n2_:=Q1.mk (Qh (by repeat (first|(with_reducible first|exact HB.out|apply Q2|apply Q0|apply Q5)|exact HB.out)) hb);clear Gm HB;have Gm:=n0_;have OG:=n1_;have HB:=n2_;clear n0_ n1_ n2_;(try clear hb);(try clear hb2);(try clear hk);(try clear hi);(try clear ho0);obtain ⟨qlk,qlF,qpk⟩:=Kd.V_slice Gm.out;subst qpk;obtain ⟨qll,qlG,qpl⟩:=Kd.R_slice OG.out;subst qpl)|((with_reducible refine Qs (f:=24) rfl ?_);refine Yj (some 23) rfl rfl Try.func24 (by kernel_rfl) rfl #[.slice qlk qcn.length qlF,.slice qll qcP.length qlG] rfl (by (try simp only [List.map_toArray,List.map_cons,List.map_nil]);first|done|rfl|(simp only [List.length_drop,List.length_take];rfl)) ?_;(with_reducible refine (QN.calls k _ _ qcn _ _ qcP false _ ?side1 ?side2 ?side3 ?side4 A5.out).mono ?_);(case side1=>repeat (first|exact (Kd.V_reads' Gm.out).2.2|(with_reducible refine Kd.C_alloc ?_ _)|(with_reducible refine Kd.C_drewN ?_ _)|(with_reducible refine Kd.C_drew ?_)));(case side2=>exact (Kd.V_reads' Gm.out).2.1);(case side3=>repeat (first|exact (Kd.R_reads' OG.out).2.2|(with_reducible refine Kd.C_alloc ?_ _)|(with_reducible refine Kd.C_drewN ?_ _)|(with_reducible refine Kd.C_drew ?_)));(case side4=>exact (Kd.R_reads' OG.out).2.1);rintro e w' ⟨rfl,⟨nd,rfl⟩⟩;refine ⟨_,rfl,?_⟩))
 go_ret
 exact ⟨by first|rfl|(simp [Qp,Qq]<;>rfl)|(simp [*,Qp,Qq]<;>rfl),by repeat (first|(with_reducible first|exact HB.out|apply Q2|apply Q0|apply Q5)|exact HB.out)⟩
end
section
attribute [local go_sem] YH YJ Z0 Z1 Yr Ys YI YK
end
section
attribute [local go_sem] YH YJ Z0 Z1 Yr Ys YI YK
attribute [local go_sem high] qki
end
end Go.Proofs.Ytmhomdohhihlcaa.P
namespace Go.Proofs.Ytmhomdohhihlcaa.P
open Go.RowKit Go.ChangeShapes Go.WideShapes Go.Proofs.YtmhomdohhihlcaaW.PrintWords Go.Proofs.YtmhomdohhihlcaaW.PrintLast Go.Proofs.YtmhomdohhihlcaaW.PrintMore
def WP {α:Type} (d:Kd α) (t:TypeId) (p:α→Prop):Prop:=∀ (H:Type) (enc:TypeId × Value→H) (w:World) (fuel:Nat) (cs:List Value) (x:DataW H × List MemPlace),
 DataW.trod enc Try.prog w 0 (fun _=>true) true fuel t cs=some x → ∃ a,d.K w a cs∧p a
def Wf (n:Int):Prop:=(Lit.int .i64 n).wf=true
theorem qfP {α:Type} {d:Kd α} {e e' t:TypeId} {p:α→Prop} (h:WP d e p) (ht:Try.prog.underlying t=some (.slice e)) (hc:Try.prog.cellsOf e=d.sz):WP (Kd.slice e' d) t (fun xs => ∀ x∈xs,p x):=fun H enc w fuel cs x hf=>by
 rcases Deep.open_slice ht hf with ⟨rfl,_⟩|⟨a,len,cap,m,n,D,Pl,rfl,_,hl,hm,hmm,_,hx⟩
 ·
  exact ⟨[],⟨none,0,rfl,Nat.le_refl _,Kd.C_nil d w⟩,fun x hx=>by simp at hx⟩
 ·
  have each:∀ i,i<len → ∃ z:α,(∃ c,c.length=d.sz∧d.K w z c ∧ ∀ j u,c[j]? = some u→w.cell? (a.add (i*d.sz+j))=some u)∧p z:=fun i hi=>by
   obtain ⟨cs',h1,h2⟩:=hx i (by simp only [if_true] at hmm;omega)
   obtain ⟨z,hz,hp⟩:=h H enc w n cs' _ h2
   obtain ⟨_,hcl,hat⟩:=World.cells?_some h1
   refine ⟨z,⟨cs',d.K_len hz,hz,fun j u hu => ?_⟩,hp⟩
   have hj:j<cs'.length:=(List.getElem?_eq_some_iff.1 hu).1
   rw [d.K_len hz] at hj
   have hj':j<Try.prog.cellsOf e:=by rw [hc];exact hj
   have h3:=hat j hj'
   rw [Deep.add_add,hc] at h3
   rw [h3]
   exact hu
  by_cases h0:len=0
  ·
   subst h0
   exact ⟨[],⟨some a,cap,rfl,by simp,⟨rfl,by simp,fun hh=>by simp at hh⟩⟩,fun x hx=>by simp at hx⟩
  ·
   obtain ⟨z0,_⟩:=each 0 (by omega)
   have inst:Inhabited α:=⟨z0⟩
   obtain ⟨f,hfz⟩:=Deep.choose_lt each
   have hmx:cap≤9223372036854775807:=by unfold maxLen at hm;omega
   refine ⟨(List.range len).map f,⟨some a,cap,by simp,by simpa using hl,⟨rfl,by simp;omega,fun _=>⟨a,rfl,fun j q hj => ?_⟩⟩⟩,fun x hx => ?_⟩
   ·
    have hj2:j<len:=by have:=(List.getElem?_eq_some_iff.1 hj).1;simpa using this
    rw [List.getElem?_map,List.getElem?_range hj2] at hj
    injection hj with hj
    subst hj;obtain ⟨c,c1,c2,c3⟩:=(hfz j hj2).1
    exact ⟨c,c1,c2,c3⟩
   ·
    obtain ⟨i,hi,rfl⟩:=List.mem_map.1 hx
    exact (hfz i (List.mem_range.1 hi)).2
theorem c3:Try.prog.cellsOf 3=1:=by kernel_rfl
theorem c25:Try.prog.cellsOf 25=2:=by kernel_rfl
theorem c37:Try.prog.cellsOf 37=1:=by kernel_rfl
theorem c32:Try.prog.cellsOf 32=1:=by kernel_rfl
theorem c63:Try.prog.cellsOf 63=1:=by kernel_rfl
theorem c44:Try.prog.cellsOf 44=1:=by kernel_rfl
theorem c45:Try.prog.cellsOf 45=1:=by kernel_rfl
theorem c39:Try.prog.cellsOf 39=5:=by kernel_rfl
theorem c47:Try.prog.cellsOf 47=3:=by kernel_rfl
theorem c23:Try.prog.cellsOf 23=2:=by kernel_rfl
theorem qA7 {α:Type} {l:List α} (h:l.length=2):∃ a b,l=[a,b]:=by
 match l,h with
 | [a,b],_=>exact ⟨a,b,rfl⟩
theorem qiG {α:Type} {l:List α} {i:Nat} {o:Option α} (hi:i<l.length) (h:o=l[i]?):∃ y,o=some y:=⟨l[i],by rw [h,List.getElem?_eq_getElem hi]⟩
def W25 (s:S25):Prop:=Wf s.f0∧Wf s.f1
theorem qfO:WP k25 25 W25:=fun H enc w fuel cs x h=>by
 obtain ⟨xs,n,_,_,hl,hxl,hf⟩:=DataW.trod_struct Try.underlying25 h
 rw [c25] at hl
 obtain ⟨a,b,rfl⟩:=qA7 hl
 have h0:DataW.trod enc Try.prog w 0 (fun _=>true) true n 3 (([a,b].drop 0).take (Try.prog.cellsOf 3))=xs[0]?:=hf 0 _ rfl
 have h1:DataW.trod enc Try.prog w 0 (fun _=>true) true n 3 (([a,b].drop 1).take (Try.prog.cellsOf 3))=xs[1]?:=hf 1 _ rfl
 rw [c3] at h0 h1
 have hx2:xs.length=2:=hxl
 obtain ⟨y0,e0⟩:=qiG (by omega) h0
 obtain ⟨y1,e1⟩:=qiG (by omega) h1
 obtain ⟨n0,q0,_,g0⟩:=DataW.trod_int Try.underlying3 e0
 obtain ⟨n1,q1,_,g1⟩:=DataW.trod_int Try.underlying3 e1
 replace q0:[a]=[Value.int .i64 n0]:=q0
 replace q1:[b]=[Value.int .i64 n1]:=q1
 injection q0 with q0
 injection q1 with q1
 subst q0 q1
 exact ⟨⟨n0,n1⟩,qkO w ⟨n0,n1⟩,g0,g1⟩
theorem qfQ:WP (Kd.slice 25 k25) 32 (fun l => ∀ x∈l,W25 x):=qfP qfO Try.underlying32 c25
section
variable {H:Type} {enc:TypeId × Value→H} {W:World} {d:DataW H} {ps:List MemPlace}
theorem qiW {α:Type} {k:Kd α} {t e':TypeId} {p:List α→Prop} (hr:WP (Kd.slice e' k) t p) {a:Option Addr} {len cap:Nat} (h:DataW.Trod enc Try.prog W 0 (fun _=>true) true t (.slice a len cap) d ps) :
  ∃ l:List α,len=l.length∧Kd.C k W a l.length l∧l.length≤cap∧p l:=by
 obtain ⟨fuel,hf⟩:=h
 obtain ⟨l,⟨A,c,e1,hc,hC⟩,hp⟩:=hr H enc W fuel _ _ hf
 replace e1:[Value.slice a len cap]=[Value.slice A l.length c]:=e1
 injection e1 with e1
 injection e1 with e1 e2 e3
 subst e1 e2 e3
 exact ⟨l,rfl,hC,hc,hp⟩
theorem qeV {t e:TypeId} {a:Option Addr} {len cap:Nat} {ts:List TypeId} {ds:List (DataW H)} {j:Nat} {B:Nat}
  (hsz:(DataW.weightsEach Try.prog ts ds).all (· ≤ reachBytes)=true) (ht:ts[j]? = some t) (hd:ds[j]? = some d) (hu:Try.prog.underlying t=some (.slice e)) (hB:Try.prog.bytesOf e=B)
  (h:DataW.Trod enc Try.prog W 0 (fun _=>true) true t (.slice a len cap) d ps):len*B≤140737488351232:=by
 obtain ⟨fuel,hf⟩:=h
 rcases Deep.open_slice hu hf with ⟨hcs,_⟩|⟨a',len',cap',m,n,D,Pl,hcs,_,hl,_,hmm,hx,_⟩
 ·
  replace hcs:[Value.slice a len cap]=[Value.slice none 0 0]:=hcs
  injection hcs with hcs
  injection hcs with _ h2 _
  subst h2
  simp
 ·
  replace hcs:[Value.slice a len cap]=[Value.slice (some a') len' cap']:=hcs
  injection hcs with hcs
  injection hcs with _ h2 _
  subst h2
  injection hx with hx _
  rw [hx] at hd
  have z:=sized_slice hsz ht hd hu
  rw [hB] at z
  have hrb:reachBytes=140737488351232:=by decide
  rw [hrb] at z
  simp only [List.length_map,List.length_range] at z
  exact Nat.le_trans (Nat.mul_le_mul_right _ (by omega)) z
end
end Go.Proofs.Ytmhomdohhihlcaa.P
namespace Go.Proofs.Ytmhomdohhihlcaa.P
open Go.RowKit Go.Proofs.YtmhomdohhihlcaaW.PrintWords Go.Proofs.YtmhomdohhihlcaaW.PrintLast Go.Proofs.YtmhomdohhihlcaaW.PrintMore
section
theorem qaR (a b c:Int):Qj.f a b c=some (wi a b c):=by
 unfold Qj.f wi
 by_cases h:b≤a
 ·
  rw [if_pos h];simp [h]
 ·
  rw [if_neg h];simp [h]
theorem qa3 (a b c:Int):Yn.f a b c=some (wi a b c):=by
 unfold Yn.f wi
 by_cases h:b≤a
 ·
  rw [if_pos h];simp [h]
 ·
  rw [if_neg h];simp [h]
def sp (a b h:Int):Bool:=decide (0≤a∧a≤b∧b≤h)
theorem qec (a b h:Int):ZH.f a b h=some (sp a b h):=by
 unfold ZH.f sp
 by_cases h1:0≤a
 ·
  rw [if_pos h1]
  by_cases h2:a≤b
  ·
   rw [if_pos h2];simp [h1,h2]
  ·
   rw [if_neg h2];simp [h2]
 ·
  rw [if_neg h1];simp [h1]
theorem qdn (a b h:Int):ZE.f a b 0 h=some (sp a b h):=by
 unfold ZE.f
 rw [qa3,qa3]
 simp only [Option.bind_some]
 by_cases h1:wi a 0 h=true
 ·
  rw [if_pos h1]
  obtain ⟨h2,h3⟩:=qcp.1 h1
  unfold wi sp
  congr 1
  rw [decide_eq_decide]
  omega
 ·
  rw [if_neg h1]
  unfold wi at h1
  unfold sp
  congr 1
  symm
  simp at h1 ⊢
  omega
theorem wr1 (i n:Nat) (h:i<n) (hn:(n:Int)≤9223372036854775807):wrap64 ((i:Int)+1)=((i+1:Nat):Int):=by unfold wrap64;omega
end
section
theorem qaX (l:List S25) (i:Nat) (h:i<l.length):Qu l (i:Int)=l[i]:=by simp [Qu,List.getD_eq_getElem?_getD,List.getElem?_eq_getElem h]
theorem qqa (l:List (List S25)) (i:Nat) (h:i<l.length):YF l (i:Int)=l[i]:=by simp [YF,List.getD_eq_getElem?_getD,List.getElem?_eq_getElem h]
theorem rdN (l:List Int) (i:Nat) (h:i<l.length):rd l (i:Int)=l[i]:=by simp [rd,List.getD_eq_getElem?_getD,List.getElem?_eq_getElem h]
def spS (s:S25):Bool:=sp s.f0 s.f1 100
theorem qeb {s:S25}:spS s=true↔0≤s.f0∧s.f0≤s.f1∧s.f1≤100:=by unfold spS sp;rw [decide_eq_true_eq]
def areS (n:Int) (x:List S25):Bool:=wi n 1 6&&((x.length:Int)==n)&&x.all spS
theorem qaG (x:List S25) (n:Int) (hn:x.length≤9223372036854775807):Ev (fun k=>Qr.f k x n) (areS n x):=by
 have loop:∀ (d i:Nat) (b:Bool),i+d=x.length→Ev (fun k=>Qr.l0 k b x (x.length:Int) (i:Int)) (b&&(x.drop i).all spS):=by
  intro d
  induction d with
  | zero =>
   intro i b hi
   rw [List.drop_eq_nil_of_le (by omega),List.all_nil,Bool.and_true]
   refine Ev.step (f:=fun _=>some b) (fun k => ?_) (Ev.now _)
   simp only [Qr.l0]
   rw [if_neg (by omega)]
  | succ d ih =>
   intro i b hi
   have hlt:i<x.length:=by omega
   have hw:=wr1 i x.length hlt (by omega)
   rw [List.drop_eq_getElem_cons hlt,List.all_cons,← Bool.and_assoc]
   refine Ev.step (f:=fun k=>Qr.l0 k (b&&spS x[i]) x (x.length:Int) ((i+1:Nat):Int)) (fun k => ?_) (ih (i+1) _ (by omega))
   simp only [Qr.l0,qec,Option.bind_some,qaX x i hlt,hw]
   rw [if_pos (by omega),if_pos (by omega),if_pos (by omega)]
   cases b with
   | false=>simp
   | true=>simp [spS]
 have h2:Ev (fun k=>Qr.j0 k x (wi n 1 6&&((x.length:Int)==n))) (areS n x):=by
  refine Ev.step (f:=fun k=>Qr.l0 k (wi n 1 6&&((x.length:Int)==n)) x (x.length:Int) ((0:Nat):Int)) (fun k => ?_) (loop x.length 0 _ (by omega))
  simp [Qr.j0]
 refine Ev.congr (fun k => ?_) h2
 simp only [Qr.f,qaR,Option.bind_some]
 cases wi n 1 6<;>simp
theorem qk3 (n:Int):∀ (L:List (List S25)) (ok:Bool),(∀ x∈L,x.length≤9223372036854775807)→Ev (fun k=>Qi.sg k n L ok) (ok&&L.all (areS n))
 | [],ok,_=>by
  rw [List.all_nil,Bool.and_true]
  exact Ev.congr (fun k=>rfl) (Ev.now _)
 | x::xs,ok,h=>by
  rw [List.all_cons,← Bool.and_assoc]
  cases ok with
  | false=>exact Ev.congr (fun k=>by simp [Qi.sg]) (qk3 n xs false (fun y hy=>h y (by simp [hy])))
  | true =>
   refine Ev.congr (f:=fun k=>(Qr.f k x n).bind fun b=>Qi.sg k n xs b) (fun k=>by simp [Qi.sg]) ?_
   exact Ev.bind (qaG x n (h x (by simp))) (qk3 n xs _ (fun y hy=>h y (by simp [hy])))
def dl (g:S25→Int) (mix:List Int) (l0:List (List S25)) (k:Int):Nat→Int
 | 0=>0
 | j+1=>dl g mix l0 k j+rd mix (j:Int)*g (Qu (YF l0 (j:Int)) k)
structure Sg (l0:List (List S25)) (n:Nat):Prop where
 n1:1≤n
 n6:n≤6
 r1:1≤l0.length
 r3:l0.length≤3
 ln:∀ r:Nat,r<l0.length→(YF l0 (r:Int)).length=n
 sp:∀ r k:Nat,r<l0.length→k<n→0≤(Qu (YF l0 (r:Int)) (k:Int)).f0∧(Qu (YF l0 (r:Int)) (k:Int)).f0≤(Qu (YF l0 (r:Int)) (k:Int)).f1∧(Qu (YF l0 (r:Int)) (k:Int)).f1≤100
theorem Sg.of {l0:List (List S25)} {n:Nat} (h0:wi (l0.length:Int) 1 3=true) (hn:wi (n:Int) 1 6=true) (h1:l0.all (areS (n:Int))=true):Sg l0 n:=by
 obtain ⟨a0,a1⟩:=qcp.1 h0
 obtain ⟨b0,b1⟩:=qcp.1 hn
 have hr:∀ r:Nat,r<l0.length→(YF l0 (r:Int)).length=n∧(YF l0 (r:Int)).all spS=true:=fun r hr=>by
  have:=List.all_eq_true.1 h1 l0[r] (List.getElem_mem hr)
  unfold areS at this
  rw [Bool.and_eq_true,Bool.and_eq_true,beq_iff_eq] at this
  rw [qqa l0 r hr]
  exact ⟨by omega,this.2⟩
 refine ⟨by omega,by omega,by omega,by omega,fun r h=>(hr r h).1,fun r k h hk => ?_⟩
 obtain ⟨e1,e2⟩:=hr r h
 have hk':k<(YF l0 (r:Int)).length:=by omega
 rw [qaX _ k hk']
 exact qeb.1 (List.all_eq_true.1 e2 _ (List.getElem_mem hk'))
structure Mx (mix:List Int) (n:Nat):Prop where
 ln:mix.length=n
 lo:∀ r:Nat,r<n→0≤rd mix (r:Int)
 hi:∀ r:Nat,r<n→rd mix (r:Int)≤100
theorem qiC {a b:Int} (a0:0≤a) (a1:a≤100) (b0:0≤b) (b1:b≤100):0≤a*b∧a*b≤10000 :=
 ⟨Int.mul_nonneg a0 b0,Int.le_trans (Int.mul_le_mul a1 b1 b0 (by decide)) (by decide)⟩
section
variable {l0:List (List S25)} {n:Nat} (hs:Sg l0 n)
include hs
theorem dl_b {mix:List Int} (hm:Mx mix l0.length) (g:S25→Int) (hg:∀ r k:Nat,r<l0.length→k<n→0≤g (Qu (YF l0 (r:Int)) (k:Int))∧g (Qu (YF l0 (r:Int)) (k:Int))≤100) (k:Nat) (hk:k<n):∀ j:Nat,j≤l0.length→0≤dl g mix l0 k j∧dl g mix l0 k j≤10000*(j:Int)
 | 0,_=>by simp [dl]
 | j+1,hj=>by
  have ih:=dl_b hm g hg k hk j (by omega)
  have hb:=qiC (hm.lo j (by omega)) (hm.hi j (by omega)) (hg j k (by omega) hk).1 (hg j k (by omega) hk).2
  rw [dl]
  push_cast
  omega
theorem qdv {mix:List Int} (hm:Mx mix l0.length) (g:S25→Int) (hg:∀ r k:Nat,r<l0.length→k<n→0≤g (Qu (YF l0 (r:Int)) (k:Int))∧g (Qu (YF l0 (r:Int)) (k:Int))≤100) (k:Nat) (hk:k<n):∀ j:Nat,j≤l0.length →
  ((List.range j).map fun r:Nat=>wrap64 (rd mix (r:Int)*g (Qu (YF l0 (r:Int)) (k:Int)))).foldl (fun s x=>wrap64 (s+x)) 0=dl g mix l0 k j
 | 0,_=>rfl
 | j+1,hj=>by
  rw [List.range_succ,List.map_append,List.foldl_append,qdv hm g hg k hk j (by omega),List.map_cons,List.map_nil,List.foldl_cons,List.foldl_nil,dl]
  have b1:=dl_b hs hm g hg k hk j (by omega)
  have hb:=qiC (hm.lo j (by omega)) (hm.hi j (by omega)) (hg j k (by omega) hk).1 (hg j k (by omega) hk).2
  have h3:=hs.r3
  obtain ⟨X,hX⟩:∃ X,rd mix (j:Int)*g (Qu (YF l0 (j:Int)) (k:Int))=X:=⟨_,rfl⟩
  obtain ⟨Y,hY⟩:∃ Y,dl g mix l0 k j=Y:=⟨_,rfl⟩
  rw [hX] at hb ⊢
  rw [hY] at b1 ⊢
  have e1:wrap64 X=X:=by unfold wrap64;omega
  rw [e1]
  unfold wrap64
  omega
theorem qpH {mix:List Int} (hm:Mx mix l0.length) (k:Nat) (hk:k<n):Ev (fun q=>QA.f q 0 mix l0 (k:Int)) (dl S25.f0 mix l0 k l0.length):=by
 have h3:=hs.r3
 have hml:=hm.ln
 have loop:∀ (d i:Nat),i+d=l0.length→Ev (fun q=>QA.l0 q l0 (k:Int) ((List.range i).map fun r:Nat=>wrap64 (rd mix (r:Int)*(Qu (YF l0 (r:Int)) (k:Int)).f0)) mix (mix.length:Int) (i:Int)) (dl S25.f0 mix l0 k l0.length):=by
  intro d
  induction d with
  | zero =>
   intro i hi
   have hi':i=l0.length:=by omega
   subst hi'
   have hsum:=qee ((List.range l0.length).map fun r:Nat=>wrap64 (rd mix (r:Int)*(Qu (YF l0 (r:Int)) (k:Int)).f0)) (by simp;omega)
   have hE:=Ev.of (fun q=>QR.mono _ q) hsum
   refine Ev.step (f:=fun q=>(QR.f q ((List.range l0.length).map fun r:Nat=>wrap64 (rd mix (r:Int)*(Qu (YF l0 (r:Int)) (k:Int)).f0))).bind fun t141=>(some t141)) (fun q => ?_) (Ev.bind hE ?_)
   ·
    simp only [QA.l0];rw [if_neg (by omega)]
   ·
    rw [sumW,qdv hs hm S25.f0 (fun r k hr hk=>⟨(hs.sp r k hr hk).1,Int.le_trans (hs.sp r k hr hk).2.1 (hs.sp r k hr hk).2.2⟩) k hk l0.length (Nat.le_refl _)]
    exact Ev.now _
  | succ d ih =>
   intro i hi
   have hlt:i<l0.length:=by omega
   have hw:=wr1 i l0.length hlt (by omega)
   have hln:=hs.ln i hlt
   refine Ev.step (f:=fun q=>QA.l0 q l0 (k:Int) ((List.range (i+1)).map fun r:Nat=>wrap64 (rd mix (r:Int)*(Qu (YF l0 (r:Int)) (k:Int)).f0)) mix (mix.length:Int) ((i+1:Nat):Int)) (fun q => ?_) (ih (i+1) (by omega))
   simp only [QA.l0,JD.f,Option.bind_some,hw]
   rw [if_pos (by omega),if_pos (by omega),if_pos (by omega),if_pos (by omega),if_pos (by omega),if_pos (by omega),if_pos (by simp;omega),List.range_succ,List.map_append,List.map_cons,List.map_nil]
 exact loop l0.length 0 (by omega)
theorem qm0 {mix:List Int} (hm:Mx mix l0.length) (k:Nat) (hk:k<n):Ev (fun q=>Qx.f q 0 mix l0 (k:Int)) (dl S25.f1 mix l0 k l0.length):=by
 have h3:=hs.r3
 have hml:=hm.ln
 have loop:∀ (d i:Nat),i+d=l0.length→Ev (fun q=>Qx.l0 q l0 (k:Int) ((List.range i).map fun r:Nat=>wrap64 (rd mix (r:Int)*(Qu (YF l0 (r:Int)) (k:Int)).f1)) mix (mix.length:Int) (i:Int)) (dl S25.f1 mix l0 k l0.length):=by
  intro d
  induction d with
  | zero =>
   intro i hi
   have hi':i=l0.length:=by omega
   subst hi'
   have hsum:=qee ((List.range l0.length).map fun r:Nat=>wrap64 (rd mix (r:Int)*(Qu (YF l0 (r:Int)) (k:Int)).f1)) (by simp;omega)
   have hE:=Ev.of (fun q=>QR.mono _ q) hsum
   refine Ev.step (f:=fun q=>(QR.f q ((List.range l0.length).map fun r:Nat=>wrap64 (rd mix (r:Int)*(Qu (YF l0 (r:Int)) (k:Int)).f1))).bind fun t141=>(some t141)) (fun q => ?_) (Ev.bind hE ?_)
   ·
    simp only [Qx.l0];rw [if_neg (by omega)]
   ·
    rw [sumW,qdv hs hm S25.f1 (fun r k hr hk=>⟨Int.le_trans (hs.sp r k hr hk).1 (hs.sp r k hr hk).2.1,(hs.sp r k hr hk).2.2⟩) k hk l0.length (Nat.le_refl _)]
    exact Ev.now _
  | succ d ih =>
   intro i hi
   have hlt:i<l0.length:=by omega
   have hw:=wr1 i l0.length hlt (by omega)
   have hln:=hs.ln i hlt
   refine Ev.step (f:=fun q=>Qx.l0 q l0 (k:Int) ((List.range (i+1)).map fun r:Nat=>wrap64 (rd mix (r:Int)*(Qu (YF l0 (r:Int)) (k:Int)).f1)) mix (mix.length:Int) ((i+1:Nat):Int)) (fun q => ?_) (ih (i+1) (by omega))
   simp only [Qx.l0,Jw.f,Option.bind_some,hw]
   rw [if_pos (by omega),if_pos (by omega),if_pos (by omega),if_pos (by omega),if_pos (by omega),if_pos (by omega),if_pos (by simp;omega),List.range_succ,List.map_append,List.map_cons,List.map_nil]
 exact loop l0.length 0 (by omega)
end
def agB (l0:List (List S25)) (l1:List S25) (mix:List Int):Bool:=(List.range l1.length).all fun k:Nat=>decide (dl S25.f0 mix l0 (k:Int) l0.length≤100*(Qu l1 (k:Int)).f1)&&decide (100*(Qu l1 (k:Int)).f0≤dl S25.f1 mix l0 (k:Int) l0.length)
theorem qri {l0:List (List S25)} {l1:List S25} (hs:Sg l0 l1.length) (hv:l1.all spS=true) {mix:List Int} (hm:Mx mix l0.length):Ev (fun q=>Qi.ag q l0 l1 mix l1.length 0) (agB l0 l1 mix):=by
 have h6:=hs.n6
 have loop:∀ (d i:Nat),i+d=l1.length→Ev (fun q=>Qi.ag q l0 l1 mix d (i:Int)) ((List.range' i d).all fun k:Nat=>decide (dl S25.f0 mix l0 (k:Int) l0.length≤100*(Qu l1 (k:Int)).f1)&&decide (100*(Qu l1 (k:Int)).f0≤dl S25.f1 mix l0 (k:Int) l0.length)):=by
  intro d
  induction d with
  | zero=>intro i hi;exact Ev.congr (fun q=>rfl) (Ev.now _)
  | succ d ih =>
   intro i hi
   have hlt:i<l1.length:=by omega
   rw [List.range'_succ,List.all_cons]
   have hx:=qeb.1 (List.all_eq_true.1 hv l1[i] (List.getElem_mem hlt))
   have hr:=qaX l1 i hlt
   rw [hr]
   obtain ⟨x,hxe⟩:∃ x,l1[i]=x:=⟨_,rfl⟩
   rw [hxe] at hx hr ⊢
   have w0:wrap64 (100*x.f0)=100*x.f0:=by unfold wrap64;omega
   have w1:wrap64 (100*x.f1)=100*x.f1:=by unfold wrap64;omega
   refine Ev.congr (f:=fun q=>(QA.f q 0 mix l0 (i:Int)).bind fun lo=>if 100*x.f1<lo then some false else (Qx.f q 0 mix l0 (i:Int)).bind fun hi=>if hi<100*x.f0 then some false else Qi.ag q l0 l1 mix d ((i+1:Nat):Int)) (fun q=>by rw [Qi.ag,hr,w0,w1];push_cast;rfl) ?_
   refine Ev.bind (qpH hs hm i hlt) ?_
   by_cases c0:100*x.f1<dl S25.f0 mix l0 (i:Int) l0.length
   ·
    refine Ev.congr (f:=fun _=>some false) (fun q=>by rw [if_pos c0]) ?_;rw [decide_eq_false (by omega),Bool.false_and,Bool.false_and]
    exact Ev.now _
   ·
    refine Ev.congr (f:=fun q=>(Qx.f q 0 mix l0 (i:Int)).bind fun hi=>if hi<100*x.f0 then some false else Qi.ag q l0 l1 mix d ((i+1:Nat):Int)) (fun q=>by rw [if_neg c0]) ?_;rw [decide_eq_true (by omega:dl S25.f0 mix l0 (i:Int) l0.length≤100*x.f1),Bool.true_and];refine Ev.bind (qm0 hs hm i hlt) ?_
    by_cases c1:dl S25.f1 mix l0 (i:Int) l0.length<100*x.f0
    ·
     refine Ev.congr (f:=fun _=>some false) (fun q=>by rw [if_pos c1]) ?_;rw [decide_eq_false (by omega),Bool.false_and]
     exact Ev.now _
    ·
     refine Ev.congr (f:=fun q=>Qi.ag q l0 l1 mix d ((i+1:Nat):Int)) (fun q=>by rw [if_neg c1]) ?_;rw [decide_eq_true (by omega:100*x.f0≤dl S25.f1 mix l0 (i:Int) l0.length),Bool.true_and]
     exact ih (i+1) (by omega)
 have:=loop l1.length 0 (by omega)
 rw [agB,List.range_eq_range']
 exact this
def stP (l0:List (List S25)) (l1:List S25) (out:List S25) (mix:List Int):List S25 :=
 if agB l0 l1 mix then Qi.wide (if out=[] then mix.map (fun n=>⟨n,n⟩) else out) mix else out
theorem qj8 {l0:List (List S25)} {l1:List S25} (hs:Sg l0 l1.length) (hv:l1.all spS=true):∀ (L:List (List Int)) (out:List S25),(∀ m∈L,Mx m l0.length)→Ev (fun q=>Qi.all q l0 l1 L out) (L.foldl (stP l0 l1) out)
 | [],out,_=>Ev.congr (fun q=>rfl) (Ev.now _)
 | m::L,out,h=>by
  rw [List.foldl_cons]
  refine Ev.congr (f:=fun q=>(Qi.st q l0 l1 out m).bind fun o=>Qi.all q l0 l1 L o) (fun q=>rfl) ?_
  refine Ev.bind ?_ (qj8 hs hv L _ (fun m hm=>h m (by simp [hm])))
  refine Ev.congr (f:=fun q=>(Qi.ag q l0 l1 m l1.length 0).bind fun b=>some (if b then Qi.wide (if out=[] then m.map (fun n=>⟨n,n⟩) else out) m else out)) (fun q=>by rw [Qi.st,Option.map_eq_bind];rfl) ?_
  exact Ev.bind (qri hs hv (h m (by simp))) (Ev.now _)
theorem qas:∀ (j:Nat) (left:Int) (b m:List Int),0≤left→(m∈J2 j left b ↔ ∃ t:List Int,m=b++t∧t.length=j+1∧(∀ x∈t,0≤x)∧t.sum=left)
 | 0,left,b,m,h=>by
  rw [J2,List.mem_singleton]
  constructor
  ·
   rintro rfl
   exact ⟨[left],rfl,rfl,by simpa using h,by simp⟩
  ·
   rintro ⟨t,rfl,hl,h0,hsum⟩
   match t,hl with
   | [x],_=>simp at hsum;rw [hsum]
 | j+1,left,b,m,h=>by
  rw [J2,List.mem_flatMap]
  constructor
  ·
   rintro ⟨x,hx,hm⟩
   rw [List.mem_range] at hx
   obtain ⟨t,rfl,hl,h0,hsum⟩:=(qas j (left-(x:Int)) (b++[(x:Int)]) m (by omega)).1 hm
   refine ⟨(x:Int)::t,by simp,by simp [hl],?_,by simp [hsum];omega⟩
   intro y hy
   rcases List.mem_cons.1 hy with rfl|hy
   ·
    omega
   ·
    exact h0 y hy
  ·
   rintro ⟨t,rfl,hl,h0,hsum⟩
   match t,hl with
   | x::t,hl =>
    have hx0:0≤x:=h0 x (by simp)
    have ht0:0≤t.sum:=by
     have:∀ t:List Int,(∀ x∈t,0≤x)→0≤t.sum:=by
      intro t
      induction t with
      | nil=>intro _;simp
      | cons y t ih =>
       intro h;have:=ih (fun z hz=>h z (by simp [hz]));have:=h y (by simp)
       simp
       omega
     exact this t (fun y hy=>h0 y (by simp [hy]))
    rw [List.sum_cons] at hsum;refine ⟨x.toNat,by rw [List.mem_range];omega,?_⟩;rw [qas j _ _ _ (by omega)];refine ⟨t,?_,by simpa using hl,fun y hy=>h0 y (by simp [hy]),by omega⟩;rw [Int.toNat_of_nonneg hx0]
    simp
theorem qhk:∀ (t:List Int),(∀ x∈t,0≤x) → ∀ x∈t,x≤t.sum
 | [],_,x,hx=>by simp at hx
 | y::t,h,x,hx=>by
  have h1:0≤t.sum:=by
   match t with
   | []=>simp
   | z::t=>exact Int.le_trans (h z (by simp)) (qhk (z::t) (fun w hw=>h w (by simp [hw])) z (by simp))
  rw [List.sum_cons]
  rcases List.mem_cons.1 hx with rfl|hx
  ·
   omega
  ·
   have:=qhk t (fun w hw=>h w (by simp [hw])) x hx
   have:=h y (by simp)
   omega
theorem qjc {n:Nat} (hn:1≤n) {m:List Int}:m∈J2 (n-1) 100 []↔m.length=n∧(∀ x∈m,0≤x)∧m.sum=100:=by
 rw [qas _ _ _ _ (by decide)]
 constructor
 ·
  rintro ⟨t,rfl,hl,h0,h1⟩
  exact ⟨by first|omega|(simp;omega),by simpa using h0,by simpa using h1⟩
 ·
  rintro ⟨hl,h0,h1⟩
  exact ⟨m,rfl,by omega,h0,h1⟩
theorem qcb {n:Nat} (hn:1≤n) {m:List Int} (h:m∈J2 (n-1) 100 []):Mx m n:=by
 obtain ⟨hl,h0,h1⟩:=(qjc hn).1 h
 refine ⟨hl,fun r hr => ?_,fun r hr => ?_⟩
 ·
  rw [rdN m r (by omega)];exact h0 _ (List.getElem_mem _)
 ·
  rw [rdN m r (by omega),← h1];exact qhk m h0 _ (List.getElem_mem _)
def shOk (l0:List (List S25)) (l1:List S25):Bool:=wi (l0.length:Int) 1 3&&areS (l1.length:Int) l1&&l0.all (areS (l1.length:Int))
def shO (l0:List (List S25)) (l1:List S25):List S25:=(J2 (l0.length-1) 100 []).foldl (stP l0 l1) []
def shT (l0:List (List S25)) (l1:List S25):List S25 × Int:=if shOk l0 l1 then (if shO l0 l1=[] then ([],4) else (shO l0 l1,0)) else ([],91)
theorem qea {l0:List (List S25)} {l1:List S25} (h:shOk l0 l1=true):Sg l0 l1.length∧l1.all spS=true:=by
 unfold shOk at h
 rw [Bool.and_eq_true,Bool.and_eq_true] at h
 have h2:=h.1.2
 unfold areS at h2
 rw [Bool.and_eq_true,Bool.and_eq_true] at h2
 exact ⟨Sg.of h.1.1 h2.1.1 h.2,h2.2⟩
theorem qiV (l0:List (List S25)) (l1:List S25) (h0:∀ x∈l0,x.length≤9223372036854775807) (h1:l1.length≤9223372036854775807):Ev (fun q=>Qi.f q l0 l1) (shT l0 l1):=by
 refine Ev.congr (f:=fun q=>((if wi (l0.length:Int) 1 3 then Qr.f q l1 (l1.length:Int) else some false).bind fun b1=>(Qi.sg q (l1.length:Int) l0 b1).bind fun ok=>if ok then (Qi.all q l0 l1 (J2 (l0.length-1) 100 []) []).map fun out=>if out=[] then ([],4) else (out,0) else some ([],91))) (fun q=>by rw [Qi.f,qaR,Option.bind_some]) ?_
 have hB:Ev (fun q=>if wi (l0.length:Int) 1 3 then Qr.f q l1 (l1.length:Int) else some false) (wi (l0.length:Int) 1 3&&areS (l1.length:Int) l1):=by
  cases hw:wi (l0.length:Int) 1 3 with
  | false=>exact Ev.now _
  | true=>exact Ev.congr (fun q=>rfl) (qaG l1 _ h1)
 refine Ev.bind hB (Ev.bind (qk3 _ l0 _ h0) ?_)
 cases hok:shOk l0 l1 with
 | false =>
  have e:(wi (l0.length:Int) 1 3&&areS (l1.length:Int) l1&&l0.all (areS (l1.length:Int)))=false:=hok
  rw [e,shT,hok]
  exact Ev.now _
 | true =>
  have e:(wi (l0.length:Int) 1 3&&areS (l1.length:Int) l1&&l0.all (areS (l1.length:Int)))=true:=hok
  obtain ⟨hs,hv⟩:=qea hok
  rw [e,shT,hok,if_pos rfl]
  refine Ev.congr (f:=fun q=>(Qi.all q l0 l1 (J2 (l0.length-1) 100 []) []).bind fun out=>some (if out=[] then ([],4) else (out,0))) (fun q=>by rw [if_pos rfl,Option.map_eq_bind];rfl) ?_
  exact Ev.bind (qj8 hs hv _ _ (fun m hm=>qcb hs.r1 hm)) (Ev.now _)
def Fo (n:Nat) (A:List Int→Prop) (L:List (List Int)) (out:List S25):Prop :=
 (out=[] ∧ ∀ m∈L,¬A m)∨(out.length=n∧(∃ m∈L,A m) ∧ ∀ r:Nat,r<n→(∀ m∈L,A m→(Qu out (r:Int)).f0≤rd m (r:Int)∧rd m (r:Int)≤(Qu out (r:Int)).f1)∧(∃ m∈L,A m∧rd m (r:Int)=(Qu out (r:Int)).f0)∧(∃ m∈L,A m∧rd m (r:Int)=(Qu out (r:Int)).f1))
theorem qeu (o:List S25) (m:List Int) (h:o.length=m.length):(Qi.wide o m).length=o.length:=by simp [Qi.wide,h]
theorem qbJ (o:List S25) (m:List Int) (r:Nat) (h0:r<o.length) (h1:r<m.length):Qu (Qi.wide o m) (r:Int)=⟨if rd m (r:Int)<(Qu o (r:Int)).f0 then rd m (r:Int) else (Qu o (r:Int)).f0,if (Qu o (r:Int)).f1<rd m (r:Int) then rd m (r:Int) else (Qu o (r:Int)).f1⟩:=by
 rw [qaX (Qi.wide o m) r (by simp [Qi.wide];omega),qaX o r h0,rdN m r h1]
 simp [Qi.wide]
theorem qhY (l0:List (List S25)) (l1:List S25) (n:Nat) (hn:1≤n):∀ (L L':List (List Int)) (out:List S25),(∀ m∈L,m.length=n)→Fo n (fun m=>agB l0 l1 m=true) L' out→Fo n (fun m=>agB l0 l1 m=true) (L'++L) (L.foldl (stP l0 l1) out)
 | [],L',out,_,h=>by simpa using h
 | m::L,L',out,hL,h=>by
  have hm:m.length=n:=hL m (by simp)
  rw [List.foldl_cons,show L'++m::L=(L'++[m])++L by simp]
  refine qhY l0 l1 n hn L (L'++[m]) _ (fun x hx=>hL x (by simp [hx])) ?_
  rw [stP]
  cases ha:agB l0 l1 m with
  | false =>
   rw [if_neg (by decide)]
   rcases h with ⟨e,h⟩|⟨e,⟨q,hq,hq2⟩,h⟩
   ·
    refine .inl ⟨e,fun x hx => ?_⟩
    rcases List.mem_append.1 hx with hx|hx
    ·
     exact h x hx
    ·
     rw [List.mem_singleton.1 hx];intro hc;rw [ha] at hc;exact absurd hc (by decide)
   ·
    refine .inr ⟨e,⟨q,by simp [hq],hq2⟩,fun r hr => ?_⟩;obtain ⟨h1,⟨x,hx,hx2⟩,⟨y,hy,hy2⟩⟩:=h r hr;refine ⟨fun z hz hA => ?_,⟨x,by simp [hx],hx2⟩,⟨y,by simp [hy],hy2⟩⟩
    rcases List.mem_append.1 hz with hz|hz
    ·
     exact h1 z hz hA
    ·
     rw [List.mem_singleton.1 hz,ha] at hA;exact absurd hA (by decide)
  | true =>
   rw [if_pos rfl]
   rcases h with ⟨e,h⟩|⟨e,⟨q,hq,hq2⟩,h⟩
   ·
    rw [if_pos e]
    have hl:(m.map (fun n=>(⟨n,n⟩:S25))).length=m.length:=by simp
    refine .inr ⟨by rw [qeu _ _ hl,hl,hm],⟨m,by simp,ha⟩,fun r hr => ?_⟩
    have hv:Qu (Qi.wide (m.map (fun n=>(⟨n,n⟩:S25))) m) (r:Int)=⟨rd m (r:Int),rd m (r:Int)⟩:=by
     rw [qbJ _ _ r (by omega) (by omega),qaX _ r (by omega),rdN m r (by omega)]
     simp
    rw [hv];refine ⟨fun z hz hA => ?_,⟨m,by simp,ha,rfl⟩,⟨m,by simp,ha,rfl⟩⟩
    rcases List.mem_append.1 hz with hz|hz
    ·
     exact absurd hA (h z hz)
    ·
     rw [List.mem_singleton.1 hz];exact ⟨Int.le_refl _,Int.le_refl _⟩
   ·
    have hne:out≠[]:=by rintro rfl;simp at e;omega
    rw [if_neg hne];refine .inr ⟨by rw [qeu _ _ (by omega),e],⟨m,by simp,ha⟩,fun r hr => ?_⟩;obtain ⟨h1,⟨x,hx,hx2,hx3⟩,⟨y,hy,hy2,hy3⟩⟩:=h r hr;have hq3:=h1 q hq hq2;rw [qbJ out m r (by omega) (by omega)];obtain ⟨s,hs⟩:∃ s,Qu out (r:Int)=s:=⟨_,rfl⟩;rw [hs] at h1 hx3 hy3 hq3 ⊢;refine ⟨fun z hz hA => ?_,?_,?_⟩
    ·
     rcases List.mem_append.1 hz with hz|hz
     ·
      have:=h1 z hz hA
      dsimp only
      split<;>split<;>omega
     ·
      rw [List.mem_singleton.1 hz]
      dsimp only
      split<;>split<;>omega
    ·
     dsimp only
     by_cases c:rd m (r:Int)<s.f0
     ·
      exact ⟨m,by simp,ha,by rw [if_pos c]⟩
     ·
      exact ⟨x,by simp [hx],hx2,by rw [if_neg c];exact hx3⟩
    ·
     dsimp only
     by_cases c:s.f1<rd m (r:Int)
     ·
      exact ⟨m,by simp,ha,by rw [if_pos c]⟩
     ·
      exact ⟨y,by simp [hy],hy2,by rw [if_neg c];exact hy3⟩
theorem qqb (l0:List (List S25)) (l1:List S25) (h1:1≤l0.length):Fo l0.length (fun m=>agB l0 l1 m=true) (J2 (l0.length-1) 100 []) (shO l0 l1):=by
 have:=qhY l0 l1 l0.length h1 (J2 (l0.length-1) 100 []) [] [] (fun m hm=>(qcb h1 hm).ln) (.inl ⟨rfl,by simp⟩)
 simpa [shO] using this
end
section
theorem qk2 (l:List (List Int)) (i:Nat) (h:i<l.length):QW l (i:Int)=l[i]:=by simp [QW,List.getD_eq_getElem?_getD,List.getElem?_eq_getElem h]
theorem qaa (x:List S25) (n:Int) (hn:x.length≤9223372036854775807):Ev (fun k=>Qt.f k x n) (areS n x):=by
 have loop:∀ (d i:Nat) (b:Bool),i+d=x.length→Ev (fun k=>Qt.l0 k x b (i:Int)) (b&&(x.drop i).all spS):=by
  intro d
  induction d with
  | zero =>
   intro i b hi
   rw [List.drop_eq_nil_of_le (by omega),List.all_nil,Bool.and_true]
   refine Ev.step (f:=fun _=>some b) (fun k => ?_) (Ev.now _)
   simp only [Qt.l0]
   cases b with
   | false=>rw [if_neg (by decide)]
   | true=>rw [if_pos rfl,if_neg (by omega)]
  | succ d ih =>
   intro i b hi
   have hlt:i<x.length:=by omega
   cases b with
   | false =>
    rw [Bool.false_and];refine Ev.step (f:=fun _=>some false) (fun k => ?_) (Ev.now _);simp only [Qt.l0]
    rw [if_neg (by decide)]
   | true =>
    have hw:=wr1 i x.length hlt (by omega);rw [List.drop_eq_getElem_cons hlt,List.all_cons,Bool.true_and];refine Ev.step (f:=fun k=>Qt.l0 k x (spS x[i]) ((i+1:Nat):Int)) (fun k => ?_) (ih (i+1) _ (by omega));simp only [Qt.l0,qdn,Option.bind_some,qaX x i hlt,hw];rw [if_pos trivial,if_pos (Int.ofNat_lt.2 hlt),if_pos (Int.natCast_nonneg i)]
    rfl
 have h2:Ev (fun k=>Qt.j0 k x (wi n 1 6&&((x.length:Int)==n))) (areS n x):=by
  refine Ev.step (f:=fun k=>Qt.l0 k x (wi n 1 6&&((x.length:Int)==n)) ((0:Nat):Int)) (fun k => ?_) (loop x.length 0 _ (by omega))
  simp [Qt.j0]
 refine Ev.congr (fun k => ?_) h2
 simp only [Qt.f,qa3,Option.bind_some]
 cases wi n 1 6<;>simp
theorem qiD (l:List Int) (a:Int) (h:l.length≤10):Zw.f l a=some (l++[a]):=by
 unfold Zw.f
 simp only [Option.bind_some,List.nil_append,List.length_nil]
 rw [if_pos (by omega),if_pos (by omega)]
theorem qb4 (f:Nat→List (List Int)) (B:Nat) (h:∀ x,(f x).length≤B):∀ n,((List.range n).flatMap f).length≤n*B
 | 0=>by simp
 | n+1=>by
  rw [List.range_succ,List.flatMap_append,List.length_append,Nat.succ_mul]
  have h1:=qb4 f B h n
  have h2:=h n
  rw [List.flatMap_cons,List.flatMap_nil,List.append_nil]
  exact Nat.add_le_add h1 h2
theorem qbI:∀ (j:Nat) (left:Int) (b:List Int),left≤100→(J2 j left b).length≤101 ^ j
 | 0,left,b,_=>by simp [J2]
 | j+1,left,b,h=>by
  rw [J2]
  refine Nat.le_trans (qb4 (fun n:Nat=>J2 j (left-(n:Int)) (b++[(n:Int)])) (101 ^ j) (fun x=>qbI j _ _ (by omega)) _) ?_
  rw [Nat.pow_succ,Nat.mul_comm]
  exact Nat.mul_le_mul_left _ (by omega)
theorem Wa:∀ (j:Nat),j≤2 → ∀ (left:Int) (b:List Int),0≤left→left≤100→b.length+j≤5→Ev (fun k=>QC.f k ((j+1:Nat):Int) left b) (J2 j left b)
 | 0,_,left,b,_,_,hb=>by
  refine Ev.step (f:=fun _=>some (J2 0 left b)) (fun k => ?_) (Ev.now _)
  simp only [QC.f]
  rw [if_pos (by omega),qiD b left (by omega),Option.bind_some]
  rfl
 | j+1,hj,left,b,h0,h1,hb=>by
  have hw0:wrap64 (((j+1+1:Nat):Int)-1)=((j+1:Nat):Int):=by unfold wrap64;omega
  have hp:101 ^ j≤10201:=by
   have:j=0∨j=1:=by omega
   rcases this with rfl|rfl<;>decide
  obtain ⟨L,rfl⟩:∃ L:Nat,left=(L:Int):=⟨left.toNat,by omega⟩
  have loop:∀ (d i:Nat),i+d=L+1→Ev (fun k=>QC.l0 k ((j+1+1:Nat):Int) (L:Int) b ((List.range i).flatMap fun n:Nat=>J2 j ((L:Int)-(n:Int)) (b++[(n:Int)])) (i:Int)) (J2 (j+1) (L:Int) b):=by
   intro d
   induction d with
   | zero =>
    intro i hi
    have hi':i=L+1:=by omega
    subst hi';refine Ev.step (f:=fun _=>some (J2 (j+1) (L:Int) b)) (fun k => ?_) (Ev.now _);simp only [QC.l0]
    rw [if_neg (by omega),J2,Int.toNat_natCast]
   | succ d ih =>
    intro i hi
    have hle:(i:Int)≤(L:Int):=by omega
    have hi5:i≤101:=by omega
    have hd0:0≤(L:Int)-(i:Int):=by omega
    have hd1:(L:Int)-(i:Int)≤100:=by omega
    have hfl:=qb4 (fun n:Nat=>J2 j ((L:Int)-(n:Int)) (b++[(n:Int)])) (101 ^ j) (fun x=>qbI j _ _ (by omega)) i;have hml:=qbI j ((L:Int)-(i:Int)) (b++[(i:Int)]) hd1
    have hsz:((List.range i).flatMap fun n:Nat=>J2 j ((L:Int)-(n:Int)) (b++[(n:Int)])).length+(J2 j ((L:Int)-(i:Int)) (b++[(i:Int)])).length<5864062014805:=by
     have:i*101 ^ j≤101*10201:=Nat.mul_le_mul hi5 hp
     omega
    have hE:=Wa j (by omega) ((L:Int)-(i:Int)) (b++[(i:Int)]) hd0 hd1 (by simp;omega)
    have hw:wrap64 ((L:Int)-(i:Int))=(L:Int)-(i:Int):=by clear hsz hml hfl hw0;unfold wrap64;omega
    have hw2:wrap64 ((i:Int)+1)=((i+1:Nat):Int):=by clear hsz hml hfl hw0 hw;unfold wrap64;omega
    refine Ev.step (f:=fun k=>(QC.f k ((j+1:Nat):Int) ((L:Int)-(i:Int)) (b++[(i:Int)])).bind fun X3=>(if ((List.range i).flatMap fun n:Nat=>J2 j ((L:Int)-(n:Int)) (b++[(n:Int)])).length+X3.length<5864062014805 then (QC.l0 k ((j+1+1:Nat):Int) (L:Int) b (((List.range i).flatMap fun n:Nat=>J2 j ((L:Int)-(n:Int)) (b++[(n:Int)]))++X3) ((i+1:Nat):Int)) else (none))) (fun k => ?_) (Ev.bind hE ?_)
    ·
     simp only [QC.l0];rw [if_pos hle,qiD b (i:Int) (by omega),Option.bind_some,hw0,hw,hw2]
    ·
     refine Ev.congr (fun k => ?_) (ih (i+1) (by clear hsz hml hfl hw0 hw hw2;omega));rw [if_pos hsz,List.range_succ,List.flatMap_append,List.flatMap_cons,List.flatMap_nil,List.append_nil]
  refine Ev.step (f:=fun k=>QC.l0 k ((j+1+1:Nat):Int) (L:Int) b [] ((0:Nat):Int)) (fun k => ?_) (loop (L+1) 0 (by omega))
  simp only [QC.f]
  rw [if_neg (by omega)]
  rfl
theorem w64r {z:Int} (h0:0≤z) (h1:z≤1000000000):wrap64 z=z:=by unfold wrap64;omega
theorem qtq {X D r:Int} (u3:D≤10000*r) (r3:r≤3) (x:X≤10000):D+X≤1000000000:=by omega
theorem qfW {x:Int} (h0:0≤x) (h1:x≤100):wrap64 (100*x)=100*x:=by unfold wrap64;omega
theorem qcG {l0:List (List S25)} {l1:List S25} (hs:Sg l0 l1.length) (hv:l1.all spS=true) {m:List Int} (hM:Mx m l0.length):Ev (fun k=>QF.f k l0 l1 m) (agB l0 l1 m):=by
 have h3:=hs.r3
 have h6:=hs.n6
 have hML:=hM.ln
 have inner:∀ (i:Nat),i<l1.length → ∀ (R:Bool),(dl S25.f0 m l0 (i:Int) l0.length≤100*(Qu l1 (i:Int)).f1∧100*(Qu l1 (i:Int)).f0≤dl S25.f1 m l0 (i:Int) l0.length→Ev (fun k=>QF.l0 k l0 l1 m ((i+1:Nat):Int)) R) →
   (¬(dl S25.f0 m l0 (i:Int) l0.length≤100*(Qu l1 (i:Int)).f1∧100*(Qu l1 (i:Int)).f0≤dl S25.f1 m l0 (i:Int) l0.length)→R=false) →
   ∀ (d r:Nat),r+d=l0.length→Ev (fun k=>QF.l1 k l0 l1 m (i:Int) (dl S25.f0 m l0 (i:Int) r) (dl S25.f1 m l0 (i:Int) r) (r:Int)) R:=by
  intro i hi R hE hN d
  have gi0:(0:Int)≤(i:Int):=Int.natCast_nonneg i
  have gi1:(i:Int)<(l1.length:Int):=Int.ofNat_lt.2 hi
  have hx:=qeb.1 (List.all_eq_true.1 hv l1[i] (List.getElem_mem hi))
  have hrd:=qaX l1 i hi
  rw [← hrd] at hx
  induction d with
  | zero =>
   intro r hr
   have hr':r=l0.length:=by omega
   subst hr'
   have hwi:=wr1 i l1.length hi (by clear hx;omega)
   have w0:=qfW hx.1 (Int.le_trans hx.2.1 hx.2.2)
   have w1:=qfW (Int.le_trans hx.1 hx.2.1) hx.2.2
   by_cases c0:dl S25.f0 m l0 (i:Int) l0.length≤100*(Qu l1 (i:Int)).f1
   ·
    by_cases c1:100*(Qu l1 (i:Int)).f0≤dl S25.f1 m l0 (i:Int) l0.length
    ·
     refine Ev.step (fun k => ?_) (hE ⟨c0,c1⟩);simp only [QF.l1,hwi];rw [if_neg (Int.lt_irrefl _),if_pos gi0,if_pos gi1,w0,w1,if_neg (Int.not_lt.2 c0),if_neg (Int.not_lt.2 c1)]
    ·
     rw [hN (fun h=>c1 h.2)];refine Ev.step (f:=fun _=>some false) (fun k => ?_) (Ev.now _);simp only [QF.l1,hwi];rw [if_neg (Int.lt_irrefl _),if_pos gi0,if_pos gi1,w0,w1,if_neg (Int.not_lt.2 c0),if_pos (Int.not_le.1 c1)]
   ·
    rw [hN (fun h=>c0 h.1)];refine Ev.step (f:=fun _=>some false) (fun k => ?_) (Ev.now _);simp only [QF.l1,hwi]
    rw [if_neg (Int.lt_irrefl _),if_pos gi0,if_pos gi1,w0,w1,if_pos (Int.not_le.1 c0)]
  | succ d ih =>
   intro r hr
   have hlt:r<l0.length:=by omega
   have hl3:=hs.ln r hlt
   have hsp:=hs.sp r i hlt hi
   have f1:(r:Int)<(l0.length:Int):=Int.ofNat_lt.2 hlt
   have f2:(0:Int)≤(r:Int):=Int.natCast_nonneg r
   have f3:(r:Int)<(m.length:Int):=by clear hsp hx;omega
   have f4:(i:Int)<((YF l0 (r:Int)).length:Int):=by clear hsp hx;omega
   have f5:r≤l0.length:=by clear hsp hx;omega
   have f6:(r+1)+d=l0.length:=by clear hsp hx;omega
   have f7:(r:Int)≤3:=by clear hsp hx;omega
   have u0:=hM.lo r hlt
   have u1:=hM.hi r hlt
   have u2:=dl_b hs hM S25.f0 (fun r k hr hk=>⟨(hs.sp r k hr hk).1,Int.le_trans (hs.sp r k hr hk).2.1 (hs.sp r k hr hk).2.2⟩) i hi r f5
   have u3:=dl_b hs hM S25.f1 (fun r k hr hk=>⟨Int.le_trans (hs.sp r k hr hk).1 (hs.sp r k hr hk).2.1,(hs.sp r k hr hk).2.2⟩) i hi r f5
   have u4:=qiC u0 u1 hsp.1 (Int.le_trans hsp.2.1 hsp.2.2)
   have u5:=qiC u0 u1 (Int.le_trans hsp.1 hsp.2.1) hsp.2.2
   have hw:=wr1 r l0.length hlt (by clear hsp hx u0 u1 u2 u3 u4 u5;omega)
   have e1:wrap64 (rd m (r:Int)*(Qu (YF l0 (r:Int)) (i:Int)).f0)=rd m (r:Int)*(Qu (YF l0 (r:Int)) (i:Int)).f0:=w64r u4.1 (Int.le_trans u4.2 (by decide))
   have e2:wrap64 (rd m (r:Int)*(Qu (YF l0 (r:Int)) (i:Int)).f1)=rd m (r:Int)*(Qu (YF l0 (r:Int)) (i:Int)).f1:=w64r u5.1 (Int.le_trans u5.2 (by decide))
   have e3:wrap64 (dl S25.f0 m l0 (i:Int) r+rd m (r:Int)*(Qu (YF l0 (r:Int)) (i:Int)).f0)=dl S25.f0 m l0 (i:Int) (r+1):=by rw [dl];exact w64r (Int.add_nonneg u2.1 u4.1) (qtq u2.2 f7 u4.2)
   have e4:wrap64 (dl S25.f1 m l0 (i:Int) r+rd m (r:Int)*(Qu (YF l0 (r:Int)) (i:Int)).f1)=dl S25.f1 m l0 (i:Int) (r+1):=by rw [dl];exact w64r (Int.add_nonneg u3.1 u5.1) (qtq u3.2 f7 u5.2)
   refine Ev.step (fun k => ?_) (ih (r+1) f6)
   simp only [QF.l1,hw]
   rw [if_pos f1,if_pos f2,if_pos f3,if_pos gi0,if_pos f4,e1,e2,e3,e4]
 have outer:∀ (d i:Nat),i+d=l1.length→Ev (fun k=>QF.l0 k l0 l1 m (i:Int)) ((List.range' i d).all fun k:Nat=>decide (dl S25.f0 m l0 (k:Int) l0.length≤100*(Qu l1 (k:Int)).f1)&&decide (100*(Qu l1 (k:Int)).f0≤dl S25.f1 m l0 (k:Int) l0.length)):=by
  intro d
  induction d with
  | zero =>
   intro i hi
   refine Ev.step (f:=fun _=>some true) (fun k => ?_) (Ev.now _)
   simp only [QF.l0]
   rw [if_neg (by omega)]
  | succ d ih =>
   intro i hi
   have hlt:i<l1.length:=by omega
   rw [List.range'_succ,List.all_cons]
   refine Ev.step (f:=fun k=>QF.l1 k l0 l1 m (i:Int) (dl S25.f0 m l0 (i:Int) 0) (dl S25.f1 m l0 (i:Int) 0) ((0:Nat):Int)) (fun k => ?_) (inner i hlt _ (fun h => ?_) (fun h => ?_) l0.length 0 (by omega))
   ·
    simp only [QF.l0];rw [if_pos (Int.ofNat_lt.2 hlt)]
    rfl
   ·
    rw [decide_eq_true h.1,decide_eq_true h.2,Bool.true_and,Bool.true_and]
    exact ih (i+1) (by omega)
   ·
    by_cases c0:dl S25.f0 m l0 (i:Int) l0.length≤100*(Qu l1 (i:Int)).f1
    ·
     have c1:¬(100*(Qu l1 (i:Int)).f0≤dl S25.f1 m l0 (i:Int) l0.length):=fun c=>h ⟨c0,c⟩
     rw [decide_eq_false c1,Bool.and_false,Bool.false_and]
    ·
     rw [decide_eq_false c0,Bool.false_and,Bool.false_and]
 have:=outer l1.length 0 (by omega)
 rw [agB,List.range_eq_range']
 exact this
section
variable {l0:List (List S25)} {l1:List S25} (hs:Sg l0 l1.length) (hv:l1.all spS=true)
include hs hv
theorem qjk (L:List (List Int)) (q:Nat) (hq:q<L.length) (m:List Int) (hm:L[q]=m) (hM:Mx m l0.length) (hL:L.length≤2000000) (o W:List S25) (fst:Bool) (ho:o.length=l0.length) (hW:W.length=l0.length)
  (hWo:∀ r:Nat,r<l0.length→ZF.f (Qu o (r:Int)).f0 (Qu o (r:Int)).f1 (rd m (r:Int)) fst=some ((Qu W (r:Int)).f0,(Qu W (r:Int)).f1)) (R:List S25 × Int)
  (hE:Ev (fun k=>Qc.l1 k l0 l1 W false L ((q+1:Nat):Int)) R):∀ (d r:Nat),r+d=l0.length→Ev (fun k=>Qc.l2 k l0 l1 (W.take r++o.drop r) fst L (q:Int) (r:Int)) R:=by
 have h3:=hs.r3
 have hML:=hM.ln
 have g0:(0:Int)≤(q:Int):=Int.natCast_nonneg q
 have g1:(q:Int)<(L.length:Int):=Int.ofNat_lt.2 hq
 have e5:QW L (q:Int)=m:=by rw [qk2 L q hq,hm]
 intro d
 induction d with
 | zero =>
  intro r hr
  have hwq:=wr1 q L.length hq (by omega)
  refine Ev.step (fun k => ?_) hE
  simp only [Qc.l2,hwq]
  rw [if_neg (by simp;omega),List.take_of_length_le (by omega),List.drop_eq_nil_of_le (by omega),List.append_nil]
 | succ d ih =>
  intro r hr
  have hlt:r<l0.length:=by omega
  have hlen:(W.take r++o.drop r).length=l0.length:=by simp;omega
  have f1:(r:Int)<(((W.take r++o.drop r).length:Nat):Int):=by rw [hlen];exact Int.ofNat_lt.2 hlt
  have f2:(0:Int)≤(r:Int):=Int.natCast_nonneg r
  have f3:(r:Int)<(m.length:Int):=by omega
  have e6:Qu (W.take r++o.drop r) (r:Int)=Qu o (r:Int):=by
   rw [qaX _ r (by omega),qaX o r (by omega),List.getElem_append_right (by simp;omega)]
   simp only [List.getElem_drop,List.length_take]
   congr 1
   omega
  have e7:(W.take r++o.drop r).set r (⟨(Qu W (r:Int)).f0,(Qu W (r:Int)).f1⟩:S25)=W.take (r+1)++o.drop (r+1):=by
   have hr1:r<W.length:=by omega
   have hr2:r<o.length:=by omega
   have hl:(W.take r).length=r:=by simp;omega
   rw [List.set_append,if_neg (by omega),hl,Nat.sub_self,List.drop_eq_getElem_cons hr2,List.set_cons_zero,List.take_succ_eq_append_getElem hr1,qaX W r hr1,List.append_assoc]
   rfl
  have hw:=wr1 r l0.length hlt (by omega)
  refine Ev.step (fun k => ?_) (ih (r+1) (by clear hw;omega))
  simp only [Qc.l2,e5,e6,hw]
  rw [if_pos f1,if_pos f2,if_pos g0,if_pos g1,if_pos f3,hWo r hlt,Option.bind_some,Int.toNat_natCast,e7]
theorem qnD (L:List (List Int)) (hM:∀ m∈L,Mx m l0.length) (hL:L.length≤2000000):∀ (d q:Nat) (o p:List S25) (fst:Bool),q+d=L.length→o.length=l0.length→(fst=true→p=[])→(fst=false→p=o) →
  Ev (fun k=>Qc.l1 k l0 l1 o fst L (q:Int)) (if (L.drop q).foldl (stP l0 l1) p=[] then ([],4) else ((L.drop q).foldl (stP l0 l1) p,0)):=by
 have r1:=hs.r1
 intro d
 induction d with
 | zero =>
  intro q o p fst hq ho h1 h2
  rw [List.drop_eq_nil_of_le (by omega),List.foldl_nil]
  cases fst with
  | true =>
   refine Ev.step (f:=fun _=>some ([],4)) (fun k => ?_) ?_
   ·
    simp only [Qc.l1];rw [if_neg (by omega)]
    simp
   ·
    rw [h1 rfl,if_pos rfl];exact Ev.now _
  | false =>
   have e:=h2 rfl
   have hne:p≠[]:=by intro c;rw [← e,c] at ho;simp at ho;omega
   refine Ev.step (f:=fun _=>some (p,0)) (fun k => ?_) ?_
   ·
    simp only [Qc.l1];rw [if_neg (by omega),if_neg (by decide),e]
   ·
    rw [if_neg hne];exact Ev.now _
 | succ d ih =>
  intro q o p fst hq ho h1 h2
  have hlt:q<L.length:=by omega
  have g0:(0:Int)≤(q:Int):=Int.natCast_nonneg q
  have g1:(q:Int)<(L.length:Int):=Int.ofNat_lt.2 hlt
  have hMq:=hM _ (List.getElem_mem hlt)
  rw [List.drop_eq_getElem_cons hlt,List.foldl_cons]
  have hA:=qcG hs hv hMq
  rw [← qk2 L q hlt] at hA
  have hMl:=hMq.ln
  have ih1:=ih (q+1)
  have hq1:q+1+d=L.length:=by omega
  have hw:=wr1 q L.length hlt (by omega)
  refine Ev.step (f:=fun k=>(QF.f k l0 l1 (QW L (q:Int))).bind fun qjy=>(if qjy=true then (Qc.l2 k l0 l1 o fst L (q:Int) 0) else (Qc.l1 k l0 l1 o fst L ((q+1:Nat):Int)))) (fun k => ?_) (Ev.bind hA ?_)
  ·
   simp only [Qc.l1,hw]
   rw [if_pos g1,if_pos g0]
  rw [qk2 L q hlt]
  cases ha:agB l0 l1 L[q] with
  | false =>
   have e:stP l0 l1 p L[q]=p:=by rw [stP,ha];rfl
   rw [e]
   exact Ev.congr (fun k=>by rw [if_neg (by decide)]) (ih1 o p fst hq1 ho h1 h2)
  | true =>
   obtain ⟨base,hb,hbl,hbr⟩:∃ base:List S25,(if p=[] then L[q].map (fun n=>(⟨n,n⟩:S25)) else p)=base∧base.length=l0.length∧(∀ r:Nat,r<l0.length→ZF.f (Qu o (r:Int)).f0 (Qu o (r:Int)).f1 (rd L[q] (r:Int)) fst=some ((Qu (Qi.wide base L[q]) (r:Int)).f0,(Qu (Qi.wide base L[q]) (r:Int)).f1)):=by
    cases fst with
    | true =>
     rw [h1 rfl,if_pos rfl];refine ⟨_,rfl,by simp;omega,fun r hr => ?_⟩
     have hl:(L[q].map (fun n=>(⟨n,n⟩:S25))).length=l0.length:=by simp;omega
     have e1:Qu (L[q].map (fun n=>(⟨n,n⟩:S25))) (r:Int)=⟨rd L[q] (r:Int),rd L[q] (r:Int)⟩:=by rw [qaX _ r (by omega),rdN L[q] r (by omega)];simp
     rw [qbJ _ _ r (by omega) (by omega),e1]
     simp [ZF.f]
    | false =>
     have e:=h2 rfl
     have hne:p≠[]:=by intro c;rw [← e,c] at ho;simp at ho;omega
     rw [if_neg hne];refine ⟨_,rfl,by rw [e];exact ho,fun r hr => ?_⟩;rw [qbJ _ _ r (by rw [e];omega) (by omega),e]
     simp [ZF.f,mn,mx]
   have e:stP l0 l1 p L[q]=Qi.wide base L[q]:=by rw [stP,ha,if_pos rfl,hb]
   rw [e]
   have hWl:(Qi.wide base L[q]).length=l0.length:=by rw [qeu _ _ (by omega),hbl]
   have:=qjk hs hv L q hlt L[q] rfl hMq hL o (Qi.wide base L[q]) fst ho hWl hbr _ (ih1 _ (Qi.wide base L[q]) false hq1 hWl (fun c=>by cases c) (fun _=>rfl)) l0.length 0 (by clear hw;omega)
   rw [List.take_zero,List.drop_zero,List.nil_append] at this
   exact Ev.congr (fun k=>by rw [if_pos rfl];rfl) this
end
theorem qcF (l0:List (List S25)) (l1:List S25) (hl0:l0.length≤9223372036854775807) (h0:∀ x∈l0,x.length≤9223372036854775807) (h1:l1.length≤9223372036854775807):Ev (fun q=>Qc.f q l0 l1) (shT l0 l1):=by
 have fin:Ev (fun k=>Qc.j2 k l0 l1 (shOk l0 l1)) (shT l0 l1):=by
  cases hok:shOk l0 l1 with
  | false =>
   rw [shT,hok]
   refine Ev.step (f:=fun _=>some ([],91)) (fun k => ?_) (Ev.now _)
   simp only [Qc.j2]
   rw [if_neg (by decide)]
  | true =>
   obtain ⟨hs,hv⟩:=qea hok
   have r1:=hs.r1
   have r3:=hs.r3
   have hmx:=Wa (l0.length-1) (by omega) 100 [] (by decide) (by decide) (by simp;omega)
   rw [show ((l0.length-1+1:Nat):Int)=(l0.length:Int) by omega] at hmx
   have hpw:101 ^ (l0.length-1)≤2000000:=by
    have:l0.length-1=0∨l0.length-1=1∨l0.length-1=2:=by omega
    rcases this with h|h|h<;>rw [h]<;>decide
   have hml:=Nat.le_trans (qbI (l0.length-1) 100 [] (by decide)) hpw
   refine Ev.step (f:=fun k=>(QC.f k (l0.length:Int) 100 ([]:List Int)).bind fun JH=>(Qc.l1 k l0 l1 (List.replicate l0.length z25) true JH ((0:Nat):Int))) (fun k => ?_) (Ev.bind hmx ?_)
   ·
    simp only [Qc.j2,Int.toNat_natCast];rw [if_pos trivial,if_pos (Int.natCast_nonneg _),if_pos (by omega)]
    rfl
   ·
    have:=qnD hs hv (J2 (l0.length-1) 100 []) (fun m hm=>qcb r1 hm) hml _ 0 (List.replicate l0.length z25) [] true (Nat.zero_add _) (by simp) (fun _=>rfl) (fun c=>by cases c);rw [List.drop_zero] at this;rw [shT,hok,if_pos rfl]
    exact this
 have loop:∀ (d r:Nat) (b:Bool),r+d=l0.length→(b&&(l0.drop r).all (areS (l1.length:Int)))=shOk l0 l1→Ev (fun k=>Qc.l0 k l0 l1 b (r:Int)) (shT l0 l1):=by
  intro d
  induction d with
  | zero =>
   intro r b hr hb
   rw [List.drop_eq_nil_of_le (by omega),List.all_nil,Bool.and_true] at hb
   subst hb
   refine Ev.step (fun k => ?_) fin
   simp only [Qc.l0]
   by_cases c:shOk l0 l1=true
   ·
    rw [if_pos c,if_neg (by omega)]
   ·
    rw [if_neg c]
  | succ d ih =>
   intro r b hr hb
   have hlt:r<l0.length:=by omega
   cases b with
   | false =>
    rw [Bool.false_and] at hb;refine Ev.step (fun k => ?_) fin;simp only [Qc.l0]
    rw [if_neg (by decide),hb]
   | true =>
    rw [List.drop_eq_getElem_cons hlt,List.all_cons,Bool.true_and] at hb;have hE:=ih (r+1) (areS (l1.length:Int) l0[r]) (by omega) hb;have hS:=qaa (YF l0 (r:Int)) (l1.length:Int) (by rw [qqa l0 r hlt];exact h0 _ (List.getElem_mem hlt));have hw:=wr1 r l0.length hlt (by omega);refine Ev.step (f:=fun k=>(Qt.f k (YF l0 (r:Int)) (l1.length:Int)).bind fun qes=>(Qc.l0 k l0 l1 qes ((r+1:Nat):Int))) (fun k => ?_) (Ev.bind hS ?_)
    ·
     simp only [Qc.l0,hw];rw [if_pos trivial,if_pos (Int.ofNat_lt.2 hlt),if_pos (Int.natCast_nonneg r)]
    ·
     rw [qqa l0 r hlt];exact hE
 refine Ev.bind (qaa l1 (l1.length:Int) h1) ?_
 refine Ev.step (f:=fun k=>Qc.l0 k l0 l1 (wi (l0.length:Int) 1 3&&areS (l1.length:Int) l1) ((0:Nat):Int)) (fun k => ?_) (loop l0.length 0 _ (by omega) (by rw [List.drop_zero];rfl))
 cases areS (l1.length:Int) l1<;>cases hq:wi (l0.length:Int) 1 3<;>simp [qa3,hq,Qc.j0]
theorem qhi (a:List S25) (h:a.length≤9223372036854775807):Ev (fun k=>QN.f k a a) true:=by
 have loop:∀ (d i:Nat),i+d=a.length→Ev (fun k=>QN.l0 k a a (i:Int)) true:=by
  intro d
  induction d with
  | zero =>
   intro i hi
   refine Ev.step (f:=fun _=>some true) (fun k => ?_) (Ev.now _)
   simp only [QN.l0]
   rw [if_neg (by omega)]
  | succ d ih =>
   intro i hi
   have hlt:i<a.length:=by omega
   have hE:=ih (i+1) (by omega)
   have hw:=wr1 i a.length hlt (by omega)
   refine Ev.step (fun k => ?_) hE
   simp only [QN.l0,hw]
   rw [if_pos (Int.ofNat_lt.2 hlt),if_pos (Int.natCast_nonneg i),if_pos (Int.ofNat_lt.2 hlt),if_neg (by simp)]
 refine Ev.congr (fun k => ?_) (loop a.length 0 (by omega))
 simp only [QN.f]
 rw [if_pos trivial]
 rfl
theorem qnF (l0:List (List S25)) (l1:List S25):(shT l0 l1).1.length≤9223372036854775807:=by
 unfold shT
 cases hok:shOk l0 l1 with
 | false=>simp
 | true =>
  rw [if_pos rfl]
  obtain ⟨hs,hv⟩:=qea hok
  rcases qqb l0 l1 hs.r1 with ⟨e,_⟩|⟨e,_,_⟩
  ·
   rw [if_pos e];simp
  ·
   have:=hs.r3
   split
   ·
    simp
   ·
    dsimp only;omega
theorem StockShares (l0:List (List S25)) (l1:List S25) (hl:l0.length*24≤140737488351232) (hp:l0.length*24≤140737488351232 ∧ ∀ x∈l0,x.length*16≤140737488351232 ∧ ∀ y∈x,W25 y) (hl1:l1.length*16≤140737488351232) (hp1:∀ x∈l1,W25 x):∃ k,Ji.f k l0 l1=some true:=by
 have hl':∀ x∈l0,x.length≤9223372036854775807:=fun x hx=>by have:=(hp.2 x hx).1;omega
 refine Ev.rounds (Ev.bind (qiV l0 l1 hl' (by omega)) (Ev.bind (qcF l0 l1 (by omega) hl' (by omega)) (Ev.bind (qhi _ (qnF l0 l1)) ?_)))
 refine ⟨0,fun k _ => ?_⟩
 simp [Zf.f]
end
section
theorem qaQ {H:Type} {P:Program} {e:TypeId} {d:DataW H} {n:Nat}:∀ {L:List (DataW H)},d∈L→n∈d.weights P e→n∈DataW.weightsAll P e L
 | [],h,_=>by simp at h
 | y::L,h,hn=>by
  rw [DataW.weightsAll,List.mem_append]
  rcases List.mem_cons.1 h with rfl|h
  ·
   exact .inl hn
  ·
   exact .inr (qaQ h hn)
def Xd {α:Type} (d:Kd α) (t:TypeId) (p:α→Prop):Prop:=∀ (H:Type) (enc:TypeId × Value→H) (w:World) (fuel:Nat) (cs:List Value) (x:DataW H × List MemPlace),
 DataW.trod enc Try.prog w 0 (fun _=>true) true fuel t cs=some x→(∀ n∈x.1.weights Try.prog t,n≤reachBytes) → ∃ a,d.K w a cs∧p a
theorem WP.z {α:Type} {d:Kd α} {t:TypeId} {p:α→Prop} (h:WP d t p):Xd d t p:=fun H enc w fuel cs x hf _=>h H enc w fuel cs x hf
theorem XY {α:Type} {d:Kd α} {e e' t:TypeId} {p:α→Prop} (B:Nat) (h:Xd d e p) (ht:Try.prog.underlying t=some (.slice e)) (hc:Try.prog.cellsOf e=d.sz) (hB:Try.prog.bytesOf e=B):Xd (Kd.slice e' d) t (fun xs=>xs.length*B≤140737488351232 ∧ ∀ x∈xs,p x):=fun H enc w fuel cs x hf hw=>by
 rcases Deep.open_slice ht hf with ⟨rfl,_⟩|⟨a,len,cap,m,n,D,Pl,rfl,_,hl,hm,hmm,hxx,hx⟩
 ·
  exact ⟨[],⟨none,0,rfl,Nat.le_refl _,Kd.C_nil d w⟩,by simp,fun x hx=>by simp at hx⟩
 ·
  subst hxx
  have hws:=hw
  simp only [DataW.weights,ht] at hws
  have hwl:(len+(m-len))*B≤reachBytes:=by
   have:=hws _ (List.mem_cons_self ..)
   rw [hB] at this
   simpa using this
  have hlb:len*B≤140737488351232:=by
   have hrb:reachBytes=140737488351232:=by decide
   rw [hrb] at hwl
   exact Nat.le_trans (Nat.mul_le_mul_right _ (by omega)) hwl
  have each:∀ i,i<len → ∃ z:α,(∃ c,c.length=d.sz∧d.K w z c ∧ ∀ j u,c[j]? = some u→w.cell? (a.add (i*d.sz+j))=some u)∧p z:=fun i hi=>by
   obtain ⟨cs',h1,h2⟩:=hx i (by simp only [if_true] at hmm;omega)
   obtain ⟨z,hz,hp⟩:=h H enc w n cs' _ h2 (fun q hq=>hws q (List.mem_cons_of_mem _ (List.mem_append.2 (.inl (qaQ (List.mem_map.2 ⟨i,List.mem_range.2 hi,rfl⟩) hq)))))
   obtain ⟨_,hcl,hat⟩:=World.cells?_some h1
   refine ⟨z,⟨cs',d.K_len hz,hz,fun j u hu => ?_⟩,hp⟩
   have hj:j<cs'.length:=(List.getElem?_eq_some_iff.1 hu).1
   rw [d.K_len hz] at hj
   have hj':j<Try.prog.cellsOf e:=by rw [hc];exact hj
   have h3:=hat j hj'
   rw [Deep.add_add,hc] at h3
   rw [h3]
   exact hu
  by_cases h0:len=0
  ·
   subst h0
   exact ⟨[],⟨some a,cap,rfl,by simp,⟨rfl,by simp,fun hh=>by simp at hh⟩⟩,by simp,fun x hx=>by simp at hx⟩
  ·
   obtain ⟨z0,_⟩:=each 0 (by omega)
   have inst:Inhabited α:=⟨z0⟩
   obtain ⟨f,hfz⟩:=Deep.choose_lt each
   have hmx:cap≤9223372036854775807:=by unfold maxLen at hm;omega
   refine ⟨(List.range len).map f,⟨some a,cap,by simp,by simpa using hl,⟨rfl,by simp;omega,fun _=>⟨a,rfl,fun j q hj => ?_⟩⟩⟩,by simpa using hlb,fun x hx => ?_⟩
   ·
    have hj2:j<len:=by have:=(List.getElem?_eq_some_iff.1 hj).1;simpa using this
    rw [List.getElem?_map,List.getElem?_range hj2] at hj
    injection hj with hj
    subst hj;obtain ⟨c,c1,c2,c3⟩:=(hfz j hj2).1
    exact ⟨c,c1,c2,c3⟩
   ·
    obtain ⟨i,hi,rfl⟩:=List.mem_map.1 hx
    exact (hfz i (List.mem_range.1 hi)).2
theorem qd9:Xd (Kd.slice 32 (Kd.slice 25 k25)) 31 (fun l=>l.length*24≤140737488351232 ∧ ∀ x∈l,x.length*16≤140737488351232 ∧ ∀ y∈x,W25 y) :=
 XY 24 (XY 16 qfO.z Try.underlying32 c25 (by kernel_rfl)) Try.underlying31 c32 (by kernel_rfl)
section
variable {H:Type} {enc:TypeId × Value→H} {W:World} {d:DataW H} {ps:List MemPlace}
theorem qgp {α:Type} {k:Kd α} {t e':TypeId} {p:List α→Prop} (hr:Xd (Kd.slice e' k) t p) {a:Option Addr} {len cap:Nat} {ts:List TypeId} {ds:List (DataW H)} {j:Nat}
  (hsz:(DataW.weightsEach Try.prog ts ds).all (· ≤ reachBytes)=true) (ht:ts[j]? = some t) (hd:ds[j]? = some d) (h:DataW.Trod enc Try.prog W 0 (fun _=>true) true t (.slice a len cap) d ps) :
  ∃ l:List α,len=l.length∧Kd.C k W a l.length l∧l.length≤cap∧p l:=by
 obtain ⟨fuel,hf⟩:=h
 obtain ⟨l,⟨A,c,e1,hc,hC⟩,hp⟩:=hr H enc W fuel _ _ hf (fun n hn=>by
  have:=List.all_eq_true.1 hsz n (DataW.weights_mem_each ht hd n hn)
  simpa using this)
 replace e1:[Value.slice a len cap]=[Value.slice A l.length c]:=e1
 injection e1 with e1
 injection e1 with e1 e2 e3
 subst e1 e2 e3
 exact ⟨l,rfl,hC,hc,hp⟩
end
end
end Go.Proofs.Ytmhomdohhihlcaa.P
