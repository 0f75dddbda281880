/- What the statement StockFalls leans on, part 3 of 6: contracts of the program's functions; conditions: none. -/
import Derived.WalkMore
import Derived.StillTailTactics
import Derived.Lib.SliceRun
import Derived.Outline
import Derived.Test.YtmhomdohhihlcaaStockFallsx0
import Derived.Test.YtmhomdohhihlcaaStockFallsx1
set_option linter.unusedVariables false
set_option linter.unusedSimpArgs false
set_option linter.constructorNameAsVariable false
set_option linter.unusedSectionVars false
namespace Go.Proofs.Ytmhomdohhihlcaa.P
open Go.RowKit Go.Proofs.YtmhomdohhihlcaaW.PrintWords Go.Proofs.YtmhomdohhihlcaaW.PrintLast Go.Proofs.YtmhomdohhihlcaaW.PrintMore
section
attribute [local go_sem] Yv Yx YK YL Yn Yo Yw Yy
def QW.l0:Nat→List (List (S25))→Int→List Int→List Int→Int→Int→Option (Int)
 | 0,_,_,_,_,_,_=>none
 | k+1,x2,x3,x9,x12,x13,x14=>if x14<x13 then (if 0≤x14 then (if x14<(x12.length:Int) then (if x14<(x2.length:Int) then (if 0≤x3 then (if x3<((JW x2 x14).length:Int) then ((Gi.f ((YX (JW x2 x14) x3).f0) ((YX (JW x2 x14) x3).f1)).bind fun qaM=>(if x9.length<17592186044416 then (QW.l0 k x2 x3 (x9++[wrap64 ((rd x12 x14)*qaM)]) x12 x13 (wrap64 (x14+1))) else (none))) else (none)) else (none)) else (none)) else (none)) else (none)) else ((Ye.f k x9).bind fun t141=>(some t141))
def QW.f (k:Nat) (OT:Int) (l1:List Int) (l2:List (List (S25))) (a3:Int):Option (Int):=QW.l0 k l2 a3 ([]:List Int) l1 (l1.length:Int) 0
theorem QW.mono_l:∀ k,(∀ y0 y1 y2 y3 y4 y5,LeO (QW.l0 k y0 y1 y2 y3 y4 y5) (QW.l0 (k+1) y0 y1 y2 y3 y4 y5))
 | 0=>fun _ _ _ _ _ _ r h=>by simp [QW.l0] at h
 | k+1=>by
  have ih0:=QW.mono_l k
  intro y0 y1 y2 y3 y4 y5
  unfold QW.l0
  repeat' first
  | (with_reducible exact ih0 _ _ _ _ _ _)
  | (with_reducible exact Ye.mono _ _)
  | (with_reducible exact LeO.refl _)
  | (with_reducible exact LeO.none _)
  | (with_reducible refine LeO.ite ?_ ?_)
  | (with_reducible refine LeO.bind ?_ (fun _ => ?_))
  | exact ih0 _ _ _ _ _ _
  | exact Ye.mono _ _
  | exact LeO.none _
  | refine LeO.ite ?_ ?_
  | refine LeO.bind ?_ (fun _ => ?_)
theorem QW.mono:∀ a0 a1 a2 a3 k,LeO (QW.f k a0 a1 a2 a3) (QW.f (k+1) a0 a1 a2 a3):=by
 intro a0 a1 a2 a3 k
 have ih0:=QW.mono_l k
 unfold QW.f
 repeat' first
   | (with_reducible exact ih0 _ _ _ _ _ _)
   | (with_reducible exact Ye.mono _ _)
   | (with_reducible exact LeO.refl _)
   | (with_reducible exact LeO.none _)
   | (with_reducible refine LeO.ite ?_ ?_)
   | (with_reducible refine LeO.bind ?_ (fun _ => ?_))
   | exact ih0 _ _ _ _ _ _
   | exact Ye.mono _ _
   | exact LeO.none _
   | refine LeO.ite ?_ ?_
   | refine LeO.bind ?_ (fun _ => ?_)
def QW.T5:Bool × List (List Nat × List Nat):=(true,[([],[]),([],[]),([],[]),([2],[2]),([],[]),([],[]),([4,5],[4,5]),([6],[6]),([],[]),([7,8],[7,8]),([9],[9]),([3,10],[3,10]),([1,11],[1,11]),([12],[12]),([0,13,11],[0,13]),([14,14,0,1,2,3,4,5,6,7,8,9,10,11,12,13,14],[0,14])])
def QW.B5:List Nat:=[0,0,0,4,0,0,48,112,0,496,1008,2044,4094,8190,16383,32767]
theorem QW.tab5:rtab .any (qdQ Try.f71 5)=QW.T5:=by kernel_rfl
theorem QW.bits5:Od QW.T5.2 QW.B5=true:=by kernel_rfl
set_option maxHeartbeats 8000000 in
set_option maxRecDepth 100000 in
theorem QW.calls (k:Nat) (OT:Int) (A1:Option Addr) (c1:Nat) (l1:List Int) (A2:Option Addr) (c2:Nat) (l2:List (List (S25))) (a3:Int) (r:Int) (w:World) (hr1:Kd.C (Kd.int .i64) w A1 l1.length l1) (hc1:l1.length≤c1) (hr2:Kd.C (Kd.slice 25 k25) w A2 l2.length l2) (hc2:l2.length≤c2) (h:QW.f k OT l1 l2 a3=some r) :
  Calls Try.prog 71 #[.agg #[.func (.func 69) #[] #[]],.slice A1 l1.length c1,.slice A2 l2.length c2,.int .i64 a3] w fun e w'=>e = .returned (.int .i64 r)∧Below w.heap.size w w':=by
 have qu3:=Try.underlying104
 have qcp:=Try.underlying25
 have HR1:=Q0.mk hr1
 have HC1:=Q0.mk hc1
 clear hr1 hc1
 have HR2:=Q0.mk hr2
 have HC2:=Q0.mk hc2
 clear hr2 hc2
 have HB:=Q0.mk (Below.refl w.heap.size w)
 have H:(QW.l0 k l2 a3 ([]:List Int) l1 (l1.length:Int) 0)=some r:=h
 clear h
 have H':=Q0.mk H
 clear H
 go_enter Try.func71,Try.ntmps71
 go_wp2_with (first|((with_reducible refine Ya (N:=4) rfl ?_);refine YD ?hg (N:=4) ?hd (cs:=#[.func (.func 69) #[] #[]]) (t:=104) ?hr ?_;(case hd=>rfl);(case hg=>rfl);(case hr=>first|(go_simp;done)|(go_simp;rfl));intro WG hg w5 hbox hb;have n0_:=Q0.mk (Qx (by repeat (first|(with_reducible first|exact HB.out|apply Q4|apply Q1|apply Qa)|exact HB.out)) hb);have n1_:=Q0.mk (hbox);have n2_:=Q0.mk ((by rw [hg];exact (Qq (by repeat (first|(with_reducible first|exact HB.out|apply Q4|apply Q1|apply Qa)|exact HB.out))):w.heap.size≤WG));have n3_:=n2_;clear HB;have HB:=n0_;have Jy:=n1_;have qr8:=n2_;have Wv:=n3_;clear n0_ n1_ n2_ n3_ hb hbox hg))
 go_loopg [9,14] k (fun kq v9 v14 w' => ∃ (Ws:List Int) (Z8:Int),v14 = .int .i64 Z8∧Q0 (QW.l0 kq l2 a3 Ws l1 (l1.length:Int) Z8=some r)∧Q0 (kq≤k)∧Q0 (Kd.R (Kd.int .i64) 3 w' w.heap.size (fun _=>True) v9 Ws)∧Q0 (w'.heap[WG]? = some (.cells #[.func (.func 69) #[] #[]] 104 (0,0)))∧Q0 (Below w.heap.size w w'))
 case atStart=>exact ⟨(([]:List Int)),(0),(by first|rfl|(simp;done)|(simp [*];done)),H',⟨Nat.le_refl _⟩,⟨by first|exact Kd.R_nil _ _ _ _ _|exact Kd.N_nil _ _ _ _ _|exact Kd.V_nil _ _ _ _ _|exact Kd.Q_nil _ _ _ _ _|exact Kd.S_nil _ _ _ _ _⟩,⟨by (with_reducible repeat (first|refine Q3 ?_ _|refine Q6 ?_|refine Q2 ?_ _));exact Jy.out⟩,⟨by repeat (first|(with_reducible first|exact HB.out|apply Q4|apply Q1|apply Qa|refine Q5 ?_ Wv.out)|exact HB.out)⟩⟩
 clear H'
 try clear c1
 try clear c2
 try clear p2
 obtain ⟨Ws,Z8,rfl,HA,HK1,HO_9,Jy,HB⟩:=hrel
 cases gk with
 | zero=>exact absurd HA.out (by simp [QW.l0])
 | succ k1 =>
  have H:=HA.out
  clear HA
  simp only [QW.l0] at H
  by_cases c6:Z8<(l1.length:Int)
  ·
   rw [if_pos c6] at H
   have c6b0:decide (Z8<(l1.length:Int))=true:=decide_eq_true c6
   clear c6
   by_cases c7:0≤Z8
   ·
    rw [if_pos c7] at H;have c7b0:decide (0≤Z8)=true:=decide_eq_true c7;clear c7
    by_cases c8:Z8<(l1.length:Int)
    ·
     rw [if_pos c8] at H;have c8b0:decide (Z8<(l1.length:Int))=true:=decide_eq_true c8;clear c8
     by_cases c9:Z8<(l2.length:Int)
     ·
      rw [if_pos c9] at H;have c9b0:decide (Z8<(l2.length:Int))=true:=decide_eq_true c9;clear c9
      by_cases c10:0≤a3
      ·
       rw [if_pos c10] at H;have c10b0:decide (0≤a3)=true:=decide_eq_true c10;clear c10
       by_cases c11:a3<((JW l2 Z8).length:Int)
       ·
        rw [if_pos c11] at H;have c11b0:decide (a3<((JW l2 Z8).length:Int))=true:=decide_eq_true c11;clear c11;replace H:=Option.bind_eq_some_iff.mp H;obtain ⟨qaM,qdu,H⟩:=H;replace H:(if Ws.length<17592186044416 then (QW.l0 k1 l2 a3 (Ws++[wrap64 ((rd l1 Z8)*qaM)]) l1 (l1.length:Int) (wrap64 (Z8+1))) else (none))=some r:=H;have A12:=Q0.mk qdu;clear qdu
        by_cases c13:Ws.length<17592186044416
        ·
         rw [if_pos c13] at H;have qlM:=Q0.mk c13;clear c13;obtain ⟨qng,Xp⟩:∃ y_:List Int,y_=(Ws++[wrap64 ((rd l1 Z8)*qaM)]):=⟨_,rfl⟩
         replace H:(QW.l0 k1 l2 a3 qng l1 (l1.length:Int) (wrap64 (Z8+1)))=some r:=by first|(rw [Xp];with_reducible exact H)|(have H2_:=(Option.bind_some _ _).symm.trans H;rw [Xp];with_reducible exact H2_)|(have H2_:=(Option.bind_some _ _).symm.trans H;with_reducible exact H2_)|with_reducible exact H|(rw [Xp];exact H)|exact H
         have qlO:=Q0.mk Xp;clear Xp;have H':=Q0.mk H;clear H;have qif:0≤(Z8:Int):=of_decide_eq_true (by first|(with_reducible assumption)|assumption);have qiw:Z8<(l1.length:Int):=of_decide_eq_true (by first|(with_reducible assumption)|assumption);obtain ⟨qsx,qqR,X0⟩:=Kd.at_int HR1.out Z8 qif qiw;cases qqR;replace X0:=(HB.out.cell (World.block_lt_of_cell? w _ X0)).trans X0;replace qif:=eq_true qif;replace qiw:=eq_true qiw
         try go_wp2
         have n0_:=Q0.mk (Kd.R_drew HO_9.out);have n1_:=Q0.mk (Q6 Jy.out);have n2_:=Q0.mk (Qa HB.out);clear HO_9 Jy HB;have HO_9:=n0_;have Jy:=n1_;have HB:=n2_;clear n0_ n1_ n2_;have qig:0≤(Z8:Int):=of_decide_eq_true (by first|(with_reducible assumption)|assumption);have qix:Z8<(l2.length:Int):=of_decide_eq_true (by first|(with_reducible assumption)|assumption);obtain ⟨qlT,qqu,qhR,qqS,O5,qbz,qbv⟩:=ql2 HR2.out Z8 qig qix;have JO:=O5;cases qqS;replace O5:=(HB.out.cell (World.block_lt_of_cell? w _ O5)).trans O5;have qaU:=Q0.mk qbv;have qnp:=Q0.mk qbz;clear qbv qbz;replace qig:=eq_true qig;replace qix:=eq_true qix;have qih:0≤(a3:Int):=of_decide_eq_true (by first|(with_reducible assumption)|assumption);have qiy:a3<((JW l2 Z8).length:Int):=of_decide_eq_true (by first|(with_reducible assumption)|assumption);obtain ⟨qaV,qqT,O6,O7⟩:=WO qaU.out a3 qih qiy;have JQ:=O7;have JP:=O6;cases qqT;replace O6:=(HB.out.cell (World.block_lt_of_cell? w _ O6)).trans O6;replace O7:=(HB.out.cell (World.block_lt_of_cell? w _ O7)).trans O7;replace qih:=eq_true qih;replace qiy:=eq_true qiy;refine Km (n:=16) (S:=fun w'=>w'.cell? ⟨WG,0,none⟩=some (.func (.func 69) #[] #[])∧w'.cell? (qlT.add (Z8).toNat)=some (.slice (some qaV) (JW l2 Z8).length qhR)∧w'.cell? (qaV.add ((a3).toNat*2))=some (.int .i64 ((YX (JW l2 Z8) a3).f0))∧w'.cell? ⟨(qaV.add ((a3).toNat*2)).block,(qaV.add ((a3).toNat*2)).off+1,none⟩=some (.int .i64 ((YX (JW l2 Z8) a3).f1))) (ds:=[]) (Qg 16 0) (by kernel_rfl) rfl rfl ⟨(Qb Jy.out 0).trans rfl,((HB.out.cell (World.block_lt_of_cell? w _ JO)).trans JO),((HB.out.cell (World.block_lt_of_cell? w _ JP)).trans JP),((HB.out.cell (World.block_lt_of_cell? w _ JQ)).trans JQ)⟩ (fun hHeld => ?_);refine Jx QW.tab5 QW.bits5 (fun HT_ HW_ => ?_)
         generalize wr.drew=w14 at HO_9 Jy HB qaU O5 O6 O7 hHeld ⊢
         refine Qh 0 (some 19) (Qg 16 1) rfl rfl HT_.out (by kernel_rfl) (fun _ _ _ h=>h) ⟨.inl ⟨by rfl,fun w'=>by go_simp;with_reducible rfl⟩,by simp only [Qe,Q7,Qd,Q9,Q8,Qj,Qk];rfl,?_⟩;refine Qh 1 (some 20) (Qg 16 3) rfl rfl HT_.out (by kernel_rfl) (fun _ _ _ h=>h) ⟨.inl ⟨by rfl,fun w'=>by go_simp;with_reducible rfl⟩,by simp only [Qe,Q7,Qd,Q9,Q8,Qj,Qk];rfl,?_⟩;refine Qh 2 (some 21) (Qg 16 7) rfl rfl HT_.out (by kernel_rfl) (fun _ _ _ h=>h) ⟨.inl ⟨by rfl,fun w'=>by go_simp;with_reducible rfl⟩,by simp only [Qe,Q7,Qd,Q9,Q8,Qj,Qk];rfl,?_⟩;refine Qh 4 (some 23) (Qg 16 23) rfl rfl HT_.out (by kernel_rfl) (fun _ _ _ h=>h) ⟨.inl ⟨by rfl,fun w'=>by go_simp;with_reducible rfl⟩,by simp only [Qe,Q7,Qd,Q9,Q8,Qj,Qk];rfl,?_⟩;refine Qh 5 (some 24) (Qg 16 55) rfl rfl HT_.out (by kernel_rfl) (fun _ _ _ h=>h) ⟨.inl ⟨by rfl,fun w'=>by go_simp;with_reducible rfl⟩,by simp only [Qe,Q7,Qd,Q9,Q8,Qj,Qk];rfl,?_⟩;refine Qh 6 (some 25) (Qg 16 119) rfl rfl HT_.out (by kernel_rfl) (fun _ _ _ h=>h) ⟨.inl ⟨by rfl,fun w'=>by go_simp;with_reducible rfl⟩,by simp only [Qe,Q7,Qd,Q9,Q8,Qj,Qk];rfl,?_⟩;refine Qh 8 (some 27) (Qg 16 375) rfl rfl HT_.out (by kernel_rfl) (fun _ _ _ h=>h) ⟨.inl ⟨by rfl,fun w'=>by go_simp;with_reducible rfl⟩,by simp only [Qe,Q7,Qd,Q9,Q8,Qj,Qk];rfl,?_⟩;refine Y6 3 (some 22) (Qg 16 383) rfl rfl (Y4 HT_.out HW_.out (by kernel_rfl)) (fun _ _ _ h=>h) hHeld ⟨.inl ⟨by rfl,by rintro w' ⟨s0,s1,s2,s3⟩;go_simp;with_reducible rfl⟩,by simp only [Qe,Q7,Qd,Q9,Q8,Qj,Qk];rfl,?_⟩;refine Y6 7 (some 26) (Qg 16 511) rfl rfl (Y4 HT_.out HW_.out (by kernel_rfl)) (fun _ _ _ h=>h) hHeld ⟨.inl ⟨by rfl,by rintro w' ⟨s0,s1,s2,s3⟩;go_simp;with_reducible rfl⟩,by simp only [Qe,Q7,Qd,Q9,Q8,Qj,Qk];rfl,?_⟩;refine Qh 9 (some 28) (Qg 16 1023) rfl rfl HT_.out (by kernel_rfl) (fun _ _ _ h=>h) ⟨.inl ⟨by rfl,fun w'=>by go_simp;with_reducible rfl⟩,by simp only [Qe,Q7,Qd,Q9,Q8,Qj,Qk];rfl,?_⟩;refine Y6 10 (some 29) (Qg 16 2047) rfl rfl (Y4 HT_.out HW_.out (by kernel_rfl)) (fun _ _ _ h=>h) hHeld ⟨.inl ⟨by rfl,by rintro w' ⟨s0,s1,s2,s3⟩;go_simp;with_reducible rfl⟩,by simp only [Qe,Q7,Qd,Q9,Q8,Qj,Qk];rfl,?_⟩;refine one_ (i:=11) (N:=some 30) (Qg 16 4095) rfl rfl (Kt HT_.out (by kernel_rfl)) (by decide) (fun K hK => ?_);refine qeY Try.func69 (by kernel_rfl) rfl #[.agg #[.int .i64 ((YX (JW l2 Z8) a3).f0),.int .i64 ((YX (JW l2 Z8) a3).f1)]] 22 (by rfl) rfl rfl rfl (by (try simp only [List.map_toArray,List.map_cons,List.map_nil]);first|done|rfl|(simp only [List.length_drop,List.length_take];rfl)) ?_
         with_reducible refine (Gi.calls ((YX (JW l2 Z8) a3).f0) ((YX (JW l2 Z8) a3).f1) qaM _ A12.out).mono ?_
         rintro e w15 ⟨rfl,hb⟩;refine ⟨_,rfl,?_⟩;have n0_:=Q0.mk (Kd.R_below (by (with_reducible repeat (first|apply Kd.R_alloc|apply Kd.R_drewN|apply Kd.R_drew));exact HO_9.out) hb);have n1_:=Q0.mk (Qp (g:=WG) (o:=.cells #[.func (.func 69) #[] #[]] 104 (0,0)) (by (with_reducible repeat (first|refine Q3 ?_ _|refine Q6 ?_|refine Q2 ?_ _));exact Jy.out) hb);have n2_:=Q0.mk (Qx (by repeat (first|(with_reducible first|exact HB.out|apply Q4|apply Q1|apply Qa|refine Q5 ?_ Wv.out)|exact HB.out)) hb);clear HO_9 Jy HB;have HO_9:=n0_;have Jy:=n1_;have HB:=n2_;clear n0_ n1_ n2_
         (try clear hb)
         (try clear hb2)
         (try clear hk)
         (try clear hi)
         refine hK.out _ _ ⟨(Qb Jy.out 0).trans rfl,((HB.out.cell (World.block_lt_of_cell? w _ JO)).trans JO),((HB.out.cell (World.block_lt_of_cell? w _ JP)).trans JP),((HB.out.cell (World.block_lt_of_cell? w _ JQ)).trans JQ)⟩ (fun hHeld => ?_);clear hK K;refine Ka (a':=?_) ?_ ?_;rotate_left
         ·
          show Act.put _ (some 30) _=_
          simp only [Qe,Q7,Qd,Q9,Q8,Qj,Qk];rfl
         refine Qh 12 (some 31) (Qg 16 8191) rfl rfl HT_.out (by kernel_rfl) (fun _ _ _ h=>h) ⟨.inl ⟨by rfl,fun w'=>by go_simp;with_reducible rfl⟩,by simp only [Qe,Q7,Qd,Q9,Q8,Qj,Qk];rfl,?_⟩;refine one_ (i:=13) (N:=some 32) (Qg 16 16383) rfl rfl (Kt HT_.out (by kernel_rfl)) (by decide) (fun K hK => ?_);refine qiW (w1:=?_) (v:=?_) (by rfl) rfl ?_ ?_
         rotate_left 2
         ·
          go_simp
          constructor
          · rfl
          rfl
         refine hK.out _ _ ⟨(Qb (Q2 Jy.out _) 0).trans rfl,(World.cell?_alloc_lt _ _ _ (World.block_lt_of_cell? _ _ (((HB.out.cell (World.block_lt_of_cell? w _ JO)).trans JO)))).trans (((HB.out.cell (World.block_lt_of_cell? w _ JO)).trans JO)),(World.cell?_alloc_lt _ _ _ (World.block_lt_of_cell? _ _ (((HB.out.cell (World.block_lt_of_cell? w _ JP)).trans JP)))).trans (((HB.out.cell (World.block_lt_of_cell? w _ JP)).trans JP)),(World.cell?_alloc_lt _ _ _ (World.block_lt_of_cell? _ _ (((HB.out.cell (World.block_lt_of_cell? w _ JQ)).trans JQ)))).trans (((HB.out.cell (World.block_lt_of_cell? w _ JQ)).trans JQ))⟩ (fun hHeld => ?_);clear hK K;refine Ka (a':=?_) ?_ ?_;rotate_left
         ·
          show Act.put _ (some 32) _=_
          simp only [Qe,Q7,Qd,Q9,Q8,Qj,Qk];rfl
         refine one_ (i:=14) (N:=some 33) (Qg 16 32767) rfl rfl (Kt HT_.out (by kernel_rfl)) (by decide) (fun K hK => ?_);refine Kd.R_append_step (Kd.int .i64) (w0:=w) w.heap.size (by rfl) (.tmp 19) (.tmp 32) 37 3 (.int .i64 0) 8 rfl Try.underlying37 qaj rfl (by decide) (by omega) u9 Ws (wrap64 ((rd l1 Z8)*qaM)) [.int .i64 (wrap64 ((rd l1 Z8)*qaM))] (fun _=>True) (fun _=>False) rfl rfl ?aP (fun _ hk=>hk.elim) ?aF ?aO ?aB ?aS ?aL ?_
         (case aP=>exact rfl)
         (case aB=>exact (by repeat (first|(with_reducible first|exact HB.out|apply Q4|apply Q1|apply Qa|refine Q5 ?_ Wv.out)|exact HB.out)))
         (case aF=>exact (fun _ _=>trivial))
         (case aO=>exact (by (with_reducible repeat (first|apply Kd.R_alloc|apply Kd.R_drewN|apply Kd.R_drew));exact HO_9.out))
         (case aS=>exact (Qq (by repeat (first|(with_reducible first|exact HB.out|apply Q4|apply Q1|apply Qa|refine Q5 ?_ Wv.out)|exact HB.out))))
         (case aL=>have:=qlM.out;omega)
         intro v139 w16 ho hb hg hat;rw [← qlO.out] at ho;have n0_:=Q0.mk (Jv (g:=WG) (o:=.cells #[.func (.func 69) #[] #[]] 104 (0,0)) (by (with_reducible repeat (first|refine Q3 ?_ _|refine Q6 ?_|refine Q2 ?_ _));exact Jy.out) hg (Kd.R_ne HO_9.out Jy.out (by decide)));have n1_:=Q0.mk (hb);have n2_:=Q0.mk (ho);clear Jy HB HO_9;have Jy:=n0_;have HB:=n1_;have qlJ:=n2_;clear n0_ n1_ n2_ ho hb hg hat;refine hK.out _ _ ⟨(Qb Jy.out 0).trans rfl,((HB.out.cell (World.block_lt_of_cell? w _ JO)).trans JO),((HB.out.cell (World.block_lt_of_cell? w _ JP)).trans JP),((HB.out.cell (World.block_lt_of_cell? w _ JQ)).trans JQ)⟩ (fun hHeld => ?_);clear hK K;refine Ka (a':=?_) ?_ ?_;rotate_left
         ·
          show Act.put _ (some 33) _=_
          simp only [Qe,Q7,Qd,Q9,Q8,Qj,Qk];rfl
         refine Qh 15 (some 9) (Qg 16 65535) rfl rfl HT_.out (by kernel_rfl) (fun _ _ _ h=>h) ⟨.inl ⟨by rfl,fun w'=>by go_simp;with_reducible rfl⟩,by simp only [Qe,Q7,Qd,Q9,Q8,Qj,Qk];rfl,?_⟩;refine OQ (Gp HT_.out (by kernel_rfl)) ?_
         try go_wp2
         go_roundg k1
         case measure=>have:=HK1.out;omega
         case rel=>exact ⟨(qng),(wrap64 (Z8+1)),(by first|rfl|(simp;done)|(simp [*];done)),H',⟨by have:=HK1.out;omega⟩,⟨by (with_reducible repeat (first|apply Kd.R_alloc|apply Kd.R_drewN|apply Kd.R_drew));exact qlJ.out⟩,⟨by (with_reducible repeat (first|refine Q3 ?_ _|refine Q6 ?_|refine Q2 ?_ _));exact Jy.out⟩,⟨by repeat (first|(with_reducible first|exact HB.out|apply Q4|apply Q1|apply Qa|refine Q5 ?_ Wv.out)|exact HB.out)⟩⟩
        rw [if_neg c13] at H
        exact absurd H (by simp)
       rw [if_neg c11] at H
       exact absurd H (by simp)
      rw [if_neg c10] at H
      exact absurd H (by simp)
     rw [if_neg c9] at H
     exact absurd H (by simp)
    rw [if_neg c8] at H
    exact absurd H (by simp)
   rw [if_neg c7] at H
   exact absurd H (by simp)
  rw [if_neg c6] at H
  have c6b0:decide (Z8<(l1.length:Int))=false:=decide_eq_false c6
  clear c6
  replace H:=Option.bind_eq_some_iff.mp H
  obtain ⟨t141,qlz,H⟩:=H
  replace H:(some t141)=some r:=H
  have A17:=Q0.mk qlz
  clear qlz
  obtain rfl:=Option.some.inj H
  obtain ⟨qqv,qqP,qq3⟩:=Kd.R_slice HO_9.out
  subst qq3
  go_wp2_with (first|((with_reducible refine QK (f:=97) rfl ?_);refine YP (some 36) rfl rfl Try.func97 (by kernel_rfl) rfl #[.slice qqv Ws.length qqP] rfl (by (try simp only [List.map_toArray,List.map_cons,List.map_nil]);first|done|rfl|(simp only [List.length_drop,List.length_take];rfl)) ?_;(with_reducible refine (Ye.calls k1 _ _ Ws t141 _ ?side1 ?side2 A17.out).mono ?_);(case side1=>repeat (first|exact (Kd.R_reads' HO_9.out).2.2|(with_reducible refine Kd.C_alloc ?_ _)|(with_reducible refine Kd.C_drewN ?_ _)|(with_reducible refine Kd.C_drew ?_)));(case side2=>exact (Kd.R_reads' HO_9.out).2.1);rintro e w' ⟨rfl,⟨nd,rfl⟩⟩;refine ⟨_,rfl,?_⟩))
  go_ret
  exact ⟨by first|rfl|(simp [QB,QC]<;>rfl)|(simp [*,QB,QC]<;>rfl),by repeat (first|(with_reducible first|exact HB.out|apply Q4|apply Q1|apply Qa|refine Q5 ?_ Wv.out)|exact HB.out)⟩
end
end Go.Proofs.Ytmhomdohhihlcaa.P
namespace Go.Proofs.Ytmhomdohhihlcaa.P
open Go.RowKit Go.Shelf Go.Proofs.YtmhomdohhihlcaaW.PrintWords Go.Proofs.YtmhomdohhihlcaaW.PrintLast Go.Proofs.YtmhomdohhihlcaaW.PrintMore
attribute [local go_sem] Oper.semAt_some
section
variable {F:Fence} {n:Nat} {P:Program} {a:Act} {w:World} {Q:Exit→Act→World→Prop}
theorem KZ {b:Frame} {c:Code} {k:List Item} {cs:List Frame}:step P (lone (b.atR a (.code (.scope c)::k)) cs w) = .next (lone (b.atR a (.code c :: .inScope c::k)) cs w) :=
 step_lone_go (by simp [stepG,stepG.exec,Frame.atR])
theorem qeh {b:Frame} {c:Code} {k:List Item} {cs:List Frame}:step P (lone (b.atR a (.inScope c::k)) cs w) = .next (lone (b.atR a k) cs w) :=
 step_lone_go (by simp [stepG,stepG.exec,Frame.atR])
theorem qiZ {c:Code} (h:c.wpIn F n P (Exit.noGoto Q) a w):(Code.scope c).wpIn F n P Q a w:=by
 intro b k cs hro hb hr
 have h0:(lone (b.atR a (.code (.scope c)::k)) cs w).fenced P F:=fenced_calm hb hr rfl
 obtain ⟨e,a₁,w₁,hq,harr⟩:=h b (.inScope c::k) cs hro hb hr
 cases e with
 | normal=>exact ⟨.normal,a₁,w₁,hq,.head h0 KZ (StepsIn.trans harr (.one (fenced_calm hb hr rfl) qeh))⟩
 | exit id' =>
  have hx:exitTo id' (.inScope c::k)=exitTo id' k:=by simp [exitTo]
  exact ⟨.exit id',a₁,w₁,hq,fun k' hk => .head h0 KZ (harr.1 k' (by rw [hx];exact hk)),
    fun hr' hk=>let ⟨k₁,h1,h2⟩:=harr.2 hr' (by rw [hx];exact hk);⟨k₁,h1,.head h0 KZ h2⟩⟩
 | goto l=>exact hq.elim
 | ret=>exact ⟨_,a₁,w₁,hq,.of_steps (.one h0 KZ) harr⟩
 | panic ch=>exact ⟨_,a₁,w₁,hq,.of_steps (.one h0 KZ) harr⟩
 | outgrown=>exact ⟨_,a₁,w₁,hq,.of_steps (.one h0 KZ) harr⟩
end
structure Stop (p:Prop):Prop where
 out:p
theorem qaa {l n:Nat} {P:Program} {id:Nat} {Q:Exit→Act→World→Prop} {a:Act} {w:World} {ops:List Oper} (m:Nat) (hm:P.follows .mixedOrders=true) (hno:¬ LetsOut Q) (hd:ops.toArray.all (fun o=>match o.op with | .defer _=>false|_=>true)=true) (hB:Region.lexTailB .any ops.toArray m=true)
  (h:wpStill P ops.toArray { w with drawn:=w.drawn+1 } (fun a'=>wpList P ops.toArray Q (ops.drop m) a' { w with drawn:=w.drawn+1 }) (ops.take m) a):(Code.region id ops.toArray true).wpIn (Fence.wide.inRound l) n P Q a w:=by
 simp only [Region.lexTailB,Bool.and_eq_true,decide_eq_true_eq] at hB
 obtain ⟨⟨⟨⟨hsel,hn⟩,hs⟩,hc⟩,hlex⟩:=hB
 have hn':m<ops.length:=by simpa using hn
 have htl:(ops.take m).length=m:=by simp;omega
 have hdl:(ops.drop m).length=ops.toArray.size-m:=by simp
 have inv0:HeadInv .any ops.toArray m (Array.replicate ops.toArray.size false) :=
  ⟨by simp,fun j oj _ hl=>(by rw [getD_replicate_false] at hl;cases hl),fun t _ ht=>getD_in (by simpa using ht) (getD_replicate_false _ _)⟩
 have H:=wpAnyL_lex (md:=.any) (g:=ops.toArray.size-m) hsel hs hc hn (ops.take m) 0 _ a (fun j hj=>by
  have hj':j<m:=by rw [htl] at hj;exact hj
  simp [hj']) (by simpa using htl) inv0 (by rw [htl];exact hlex) h
 refine Ui hm hno hd ?_
 have:=wpAny_of_head (Q':=Q) (g:=ops.toArray.size-m) (fun listed a' hL=>by
  have:=wpAny_of_seq (md:=.any) (Q':=Q) (ops.drop m) m listed a' { w with drawn:=w.drawn+1 } (fun j=>by simp [List.getElem?_drop]) (by rw [hdl];exact hL.1) hL.2
  rwa [hdl] at this) _ _ _ H
 rw [htl,show m+(ops.toArray.size-m)=ops.toArray.size by omega] at this
 exact this
def QE.ag (k:Nat) (l0:List (List S25)) (l1:List S25) (mix:List Int):Nat→Int→Option Bool
 | 0,_=>some true
 | d+1,i=>(QZ.f k 0 mix l0 i).bind fun lo=>if wrap64 (100*(YX l1 i).f1)<lo then some false else
   (QW.f k 0 mix l0 i).bind fun hi=>if hi<wrap64 (100*(YX l1 i).f0) then some false else QE.ag k l0 l1 mix d (i+1)
def QE.wide (out:List S25) (mix:List Int):List S25:=(out.zip mix).map fun p=>⟨if p.2<p.1.f0 then p.2 else p.1.f0,if p.1.f1<p.2 then p.2 else p.1.f1⟩
def QE.st (k:Nat) (l0:List (List S25)) (l1:List S25) (out:List S25) (mix:List Int):Option (List S25) :=
 (QE.ag k l0 l1 mix l1.length 0).map fun b=>if b then QE.wide (if out=[] then mix.map (fun n=>⟨n,n⟩) else out) mix else out
def QE.all (k:Nat) (l0:List (List S25)) (l1:List S25):List (List Int)→List S25→Option (List S25)
 | [],out=>some out
 | x::xs,out=>(QE.st k l0 l1 out x).bind fun o=>QE.all k l0 l1 xs o
def QE.sg (k:Nat) (n:Int):List (List S25)→Bool→Option Bool
 | [],ok=>some ok
 | x::xs,ok=>if ok then (QO.f k x n).bind fun b=>QE.sg k n xs b else QE.sg k n xs false
def QE.f (k:Nat) (l0:List (List S25)) (l1:List S25):Option (List S25 × Int) :=
 (Qv.f (l0.length:Int) 1 3).bind fun b0=>(if b0 then QO.f k l1 (l1.length:Int) else some false).bind fun b1 =>
 (QE.sg k (l1.length:Int) l0 b1).bind fun ok=>if ok then
  (QE.all k l0 l1 (Wa (l0.length-1) 100 []) []).map fun out=>if out=[] then ([],4) else (out,0)
 else some ([],91)
def Uv (o:List S25) (x:List Int) (j:Nat):List S25:=QE.wide (o.take j) (x.take j)++o.drop j
theorem qiY (o:List S25) (x:List Int):Uv o x 0=o:=by simp [Uv,QE.wide]
theorem qlq {o:List S25} {x:List Int} (h:o.length=x.length):Uv o x x.length=QE.wide o x:=by
 unfold Uv
 rw [List.take_length,← h,List.take_length,List.drop_length,List.append_nil]
theorem qeG {o:List S25} {x:List Int} (h:o.length=x.length) {j:Nat} (hj:j≤x.length):(Uv o x j).length=x.length:=by
 simp [Uv,QE.wide];omega
theorem qnb {o:List S25} {x:List Int} (h:o.length=x.length) {j:Nat} (hj:j<x.length):(Uv o x j).getD j z25=o.getD j z25:=by
 have hl:(QE.wide (o.take j) (x.take j)).length=j:=by simp [QE.wide];omega
 unfold Uv
 rw [List.getD_eq_getElem?_getD,List.getD_eq_getElem?_getD,List.getElem?_append_right (by omega),hl,Nat.sub_self,List.getElem?_drop,Nat.add_zero]
theorem qiX {o:List S25} {x:List Int} (h:o.length=x.length) {j:Nat} (hj:j<x.length) {p:S25} (hp:(Uv o x j).getD j z25=p) :
  (Uv o x j).set j ⟨if rd x (j:Int)<p.f0 then rd x (j:Int) else p.f0,if p.f1<rd x (j:Int) then rd x (j:Int) else p.f1⟩=Uv o x (j+1):=by
 rw [qnb h hj] at hp
 have hjo:j<o.length:=by omega
 have hl:(QE.wide (o.take j) (x.take j)).length=j:=by simp [QE.wide];omega
 have e1:o[j]=p:=by rw [← hp];simp [List.getD_eq_getElem?_getD,List.getElem?_eq_getElem hjo]
 have e2:rd x (j:Int)=x[j]:=by simp [rd,List.getD_eq_getElem?_getD,List.getElem?_eq_getElem hj]
 unfold Uv
 rw [List.set_append_right _ _ (by omega),hl,Nat.sub_self,List.drop_eq_getElem_cons hjo,List.set_cons_zero,List.take_succ_eq_append_getElem hjo,List.take_succ_eq_append_getElem hj,e2]
 unfold QE.wide
 rw [List.zip_append (by simp;omega),List.map_append,List.append_assoc]
 simp [e1]
theorem QE.ag_mono (l0:List (List S25)) (l1:List S25) (mix:List Int) (k:Nat):∀ (d:Nat) (i:Int),LeO (QE.ag k l0 l1 mix d i) (QE.ag (k+1) l0 l1 mix d i)
 | 0,_=>LeO.refl _
 | d+1,i=>LeO.bind (QZ.mono _ _ _ _ _) (fun _=>LeO.ite (LeO.refl _) (LeO.bind (QW.mono _ _ _ _ _) (fun _=>LeO.ite (LeO.refl _) (QE.ag_mono l0 l1 mix k d (i+1)))))
theorem QE.all_mono (l0:List (List S25)) (l1:List S25) (k:Nat):∀ (xs:List (List Int)) (o:List S25),LeO (QE.all k l0 l1 xs o) (QE.all (k+1) l0 l1 xs o)
 | [],_=>LeO.refl _
 | x::xs,o=>LeO.bind (LeO.map _ (QE.ag_mono l0 l1 x k _ _)) (fun o2=>QE.all_mono l0 l1 k xs o2)
theorem QE.sg_mono (n:Int) (k:Nat):∀ (xs:List (List S25)) (b:Bool),LeO (QE.sg k n xs b) (QE.sg (k+1) n xs b)
 | [],_=>LeO.refl _
 | x::xs,b=>LeO.ite (LeO.bind (QO.mono _ _ _) (fun b2=>QE.sg_mono n k xs b2)) (QE.sg_mono n k xs false)
structure O3 (w:World) (A0:Option Addr) (c0 n0:Nat) (A1:Option Addr) (c1 n1:Nat) (W:World):Prop where
 b2:W.heap[w.heap.size]? = some (.cells #[.slice A0 n0 c0] 31 (0,0))
 b3:W.heap[w.heap.size+1]? = some (.cells #[.slice A1 n1 c1] 32 (0,0))
 below:Below w.heap.size w W
theorem O3.keep {w:World} {A0 A1:Option Addr} {c0 n0 c1 n1:Nat} {W W1:World} (h:O3 w A0 c0 n0 A1 c1 n1 W) (hb:Below W.heap.size W W1):O3 w A0 c0 n0 A1 c1 n1 W1 :=
 ⟨Qp h.b2 hb,Qp h.b3 hb,h.below.trans (hb.mono h.below.size)⟩
theorem O3.drew {w:World} {A0 A1:Option Addr} {c0 n0 c1 n1:Nat} {W:World} (h:O3 w A0 c0 n0 A1 c1 n1 W) (m:Nat):O3 w A0 c0 n0 A1 c1 n1 (W.drewN m) :=
 ⟨h.b2,h.b3,Q1 h.below m⟩
theorem qkn {k:Nat} {n:Int}:∀ {l:List (List S25)} {b:Bool},QE.sg k n l b=some true→b=true
 | [],b,h=>by simpa [QE.sg] using h
 | x::l,true,_=>rfl
 | x::l,false,h=>by
  rw [QE.sg,if_neg (by decide)] at h
  exact qkn h
theorem qhD {a b c:Int} (h:Qv.f a b c=some true):b≤a∧a≤c:=by
 unfold Qv.f at h
 by_cases h1:b≤a
 · rw [if_pos h1] at h;exact ⟨h1,by simpa using h⟩
 ·
  rw [if_neg h1] at h
  simp at h
theorem qfC {n:Nat} {P:Program} {g:Operand} {p q:Tmp} {assign body:Code} {Q:Exit→Act→World→Prop} {a:Act} {w:World}
  {gf:Nat} {lb:Array Value} (hg:a.eval g = .func (.func gf) #[] lb) (eg:∀ args w,(callFunc gf args).run P w = .ok (.enter gf args) w)
  {B:Nat} {xs:List (List Int)} {w0:World} (hseq:qb0 (n-1) P gf lb B xs w0) (hb0:Below w0.heap.size w0 w)
  (I:List (List Int)→World→Prop) (hI:OwnFrom w.heap.size I) (hI0:∀ W1 W2 row,I [] W1→W1.grownBy W2 row→(∀ r,row=some r→w.heap.size≤r)→I [] W2) (h0:I [] w)
  (hassign:∀ (l:Nat) (v:Value) (W:World) (K:Act→World→Prop),K { tmps:=(a.tmps.setIfInBounds p v).setIfInBounds q v,defers:=[] } W →
   assign.wpIn (Fence.wide.inRound l) (n-1-1) P (Exit.then K (fun _ _ _=>False)) { tmps:=a.tmps.setIfInBounds p v,defers:=[] } W)
  (hbody:∀ (l:Nat) (pre:List (List Int)) (v:Value) (x:List Int) (W:World),I pre W→pre++[x] <+: xs→Kd.R (Kd.int .i64) 3 W B (fun _=>True) v x→body.wpIn (Fence.wide.inRound l) (n-1-1) P (qhf B w.heap.size I (pre++[x]) W) { tmps:=(a.tmps.setIfInBounds p v).setIfInBounds q v,defers:=[] } W)
  (hdone:∀ (D:Nat) (W:World),w.heap.size≤D→I xs W→W.heap[D]? = some (.deferred (some []))→Q .normal { a with defers:={ target:=.collected D,args:=#[] }::a.defers } W) :
  (Code.rangeFunc g #[p] assign body).wpIn Fence.wide n P Q a w :=
 qd6 hg eg hseq hb0 I hI hI0 h0 (fun v => { tmps:=(a.tmps.setIfInBounds p v).setIfInBounds q v,defers:=[] }) (fun l v W K hK=>by
  have:=hassign l v W K hK
  simpa using this) hbody hdone
structure ShI (w:World) (k:Nat) (l0:List (List S25)) (l1:List S25) (A0:Option Addr) (c0:Nat) (A1:Option Addr) (c1 lb hb ob B:Nat) (pre:List (List Int)) (W:World):Prop where
 ex:∃ (v:Value) (out:List S25),QE.all k l0 l1 pre []=some out∧W.heap[ob]? = some (.cells #[v] 32 (0,0))∧Kd.R k25 25 W B (fun _=>True) v out∧(v = .slice none 0 0↔out=[])
 bx:O3 w A0 c0 l0.length A1 c1 l1.length W
 lo:W.heap[lb]? = some (.cells #[.func (.func 68) #[] #[]] 104 (0,0))
 hi:W.heap[hb]? = some (.cells #[.func (.func 69) #[] #[]] 104 (0,0))
 sz:B≤W.heap.size
theorem Oy {W W1:World} {row:Option Nat} (hg:W.grownBy W1 row) (hr:∀ r,row=some r → ∃ o:Obj,W.heap[r]? = some o∧o.isCells=false) {g t:Nat} {cs:Array Value} {x:Nat × Nat} (h:W.heap[g]? = some (.cells cs t x)):W1.heap[g]? = some (.cells cs t x) :=
 (hg.block g (Array.getElem?_eq_some_iff.1 h).1 (fun e=>by obtain ⟨o,ho,hc⟩:=hr g e.symm;rw [h] at ho;cases ho;cases hc)).trans h
theorem ShI.step {w:World} {k:Nat} {l0:List (List S25)} {l1:List S25} {A0 A1:Option Addr} {c0 c1 lb hb ob B:Nat} {pre:List (List Int)} {W W1:World} {row:Option Nat} (h:ShI w k l0 l1 A0 c0 A1 c1 lb hb ob B pre W)
  (hg:W.grownBy W1 row) (hr:∀ r,row=some r→w.heap.size≤r ∧ ∃ o:Obj,W.heap[r]? = some o∧o.isCells=false):ShI w k l0 l1 A0 c0 A1 c1 lb hb ob B pre W1:=by
 have hr2:∀ r,row=some r → ∃ o:Obj,W.heap[r]? = some o∧o.isCells=false:=fun r e=>(hr r e).2
 obtain ⟨v,out,h1,h2,h3,h4⟩:=h.ex
 refine ⟨⟨v,out,h1,Oy hg hr2 h2,?_,h4⟩,⟨Oy hg hr2 h.bx.b2,Oy hg hr2 h.bx.b3,h.bx.below.grown hg h.bx.below.size (fun r e=>(hr r e).1)⟩,Oy hg hr2 h.lo,Oy hg hr2 h.hi,Nat.le_trans h.sz hg.size⟩
 refine Kd.R_mono (Kd.R_move (Kd.R_bound h3) (fun b hb => ?_)) (fun _ _=>trivial)
 obtain ⟨_,_,_,q,_,cs,hc⟩:=hb
 rw [hc]
 exact Oy hg hr2 hc
theorem _root_.Go.Proofs.YtmhomdohhihlcaaW.PrintWords.Kd.R_types2 {α:Type} {d:Kd α} {e:Nat} {w:World} {base:Nat} {ok:Nat→Prop} {v:Value} {xs:List α} (h:d.R e w base ok v xs) {g:Nat} {x:Option (List Deferred)} (hb:w.heap[g]? = some (.deferred x)):d.R e w base (fun k=>ok k∧k≠g) v xs :=
 Kd.R_mono (Kd.R_bound h) (fun k hk=>⟨hk.1,by
  obtain ⟨_,_,_,q,hq,cells',hc⟩:=hk
  rintro rfl
  rw [hc] at hb
  cases hb⟩)
theorem WN {k:Nat} {l0:List (List S25)} {l1:List S25}:∀ (a b:List (List Int)) (o:List S25),QE.all k l0 l1 (a++b) o=(QE.all k l0 l1 a o).bind fun o2=>QE.all k l0 l1 b o2
 | [],b,o=>rfl
 | x::a,b,o=>by
  simp only [List.cons_append,QE.all,Option.bind_assoc]
  congr 1
  funext o2
  exact WN a b o2
theorem qnc (out:List S25) (mix:List Int):(QE.wide out mix).length=min out.length mix.length:=by simp [QE.wide]
theorem qjp {k:Nat} {l0:List (List S25)} {l1:List S25} {R:Nat}:∀ (a:List (List Int)) (o r:List S25),(∀ x∈a,x.length=R)→(o=[]∨o.length=R)→QE.all k l0 l1 a o=some r→r=[]∨r.length=R
 | [],o,r,_,ho,h=>by
  injection h with h
  rw [← h]
  exact ho
 | x::a,o,r,ha,ho,h=>by
  obtain ⟨o2,h1,h2⟩:=Option.bind_eq_some_iff.1 h
  refine qjp a o2 r (fun y hy=>ha y (List.mem_cons_of_mem _ hy)) ?_ h2
  obtain ⟨b,_,h3⟩:=Option.map_eq_some_iff.1 h1
  have hx:=ha x List.mem_cons_self
  cases b with
  | false=>rw [← h3];exact ho
  | true =>
   rw [← h3,if_pos rfl,qnc]
   right
   by_cases hz:o=[]
   · rw [if_pos hz,List.length_map];omega
   · rw [if_neg hz];have:=ho.resolve_left hz;omega
theorem qez:∀ (m:Nat) (left:Int) (b x:List Int),x∈Wa m left b→x.length=b.length+m+1
 | 0,left,b,x,h=>by
  rw [Wa,List.mem_singleton] at h
  simp [h]
 | m+1,left,b,x,h=>by
  rw [Wa] at h
  obtain ⟨n,_,h⟩:=List.mem_flatMap.1 h
  have:=qez m _ _ x h
  simp at this
  omega
theorem KY {Bl B:Nat} {W W1:World} (hb:Below W.heap.size W W1):KeepsFrom Bl W W1∧Zp B W W1 :=
 ⟨⟨hb.size,fun k o _ hk _=>(hb.block k (Array.getElem?_eq_some_iff.1 hk).1).trans hk⟩,⟨hb.size,fun b cs t _ _ hk=>(hb.block b (Array.getElem?_eq_some_iff.1 hk).1).trans hk⟩⟩
theorem ShI.same {w:World} {k:Nat} {l0:List (List S25)} {l1:List S25} {A0 A1:Option Addr} {c0 c1 lb hb ob B:Nat} {pre:List (List Int)} {x:List Int} {W W1:World} (h:ShI w k l0 l1 A0 c0 A1 c1 lb hb ob B pre W)
  (hbl:Below W.heap.size W W1) (hx:∀ out,QE.all k l0 l1 pre []=some out→QE.all k l0 l1 (pre++[x]) []=some out):ShI w k l0 l1 A0 c0 A1 c1 lb hb ob B (pre++[x]) W1:=by
 obtain ⟨v,out,h1,h2,h3,h4⟩:=h.ex
 exact ⟨⟨v,out,hx out h1,Qp h2 hbl,Kd.R_below h3 hbl,h4⟩,h.bx.keep hbl,Qp h.lo hbl,Qp h.hi hbl,Nat.le_trans h.sz hbl.size⟩
structure ShO (w:World) (A0:Option Addr) (c0 n0:Nat) (A1:Option Addr) (c1 n1 lb hb ob B:Nat) (Ax:Option Addr) (x:List Int) (W z:World) (o:List S25):Prop where
 kf:KeepsFrom (B+1) W z
 kr:Zp B W z
 bx:O3 w A0 c0 n0 A1 c1 n1 z
 lo:z.heap[lb]? = some (.cells #[.func (.func 68) #[] #[]] 104 (0,0))
 hi:z.heap[hb]? = some (.cells #[.func (.func 69) #[] #[]] 104 (0,0))
 ex:∃ v,z.heap[ob]? = some (.cells #[v] 32 (0,0))∧Kd.R k25 25 z B (fun _=>True) v o∧(v = .slice none 0 0↔o=[])
 cx:Kd.C (Kd.int .i64) z Ax x.length x
 sz:B≤z.heap.size
theorem G3 {W W1:World} {B:Nat} {v:Value} {o:List S25} (hr:Kd.R k25 25 W B (fun _=>True) v o) (hg:W.grownBy W1 v.ownBlock) {g t:Nat} {cs:Array Value} (ht:t≠25) (h:W.heap[g]? = some (.cells cs t (0,0))):W1.heap[g]? = some (.cells cs t (0,0)) :=
 (hg.block g (Array.getElem?_eq_some_iff.1 h).1 (fun e=>by
  obtain ⟨cells,hc⟩:=Oz hr.2.choose_spec.1 g e.symm
  rw [h] at hc
  injection hc with hc
  injection hc with _ hc
  exact ht hc)).trans h
theorem ShO.app {w:World} {A0 A1 Ax:Option Addr} {c0 n0 c1 n1 lb:Nat} {x:List Int} {W z z3:World} {o o2:List S25} {v v3:Value} (h:ShO w A0 c0 n0 A1 c1 n1 lb (lb+1) (lb+2) (lb+3) Ax x W z o) (hwl:w.heap.size+2≤lb)
  (hb:z.heap[lb+2]? = some (.cells #[v] 32 (0,0))) (hr:Kd.R k25 25 z (lb+3) (fun _=>True) v o) (hg:z.grownBy z3 v.ownBlock) (hr3:Kd.R k25 25 z3 (lb+3) (fun _=>True) v3 o2) (hv:v3 = .slice none 0 0↔o2=[])
  {nx cx:Nat} (hrow:Kd.R (Kd.int .i64) 3 W (lb+3) (fun _=>True) (.slice Ax nx cx) x):ShO w A0 c0 n0 A1 c1 n1 lb (lb+1) (lb+2) (lb+3) Ax x W (z3.setCell ⟨lb+2,0,none⟩ v3) o2:=by
 have hb3:=G3 hr hg (by decide) hb
 have hbk:Below (lb+3) z z3:=(Below.refl _ z).grown hg h.sz (fun k e=>(Kd.R_bound hr).1 k e |>.2.1)
 have hof:∀ (k:Nat) (ob:Obj),ob.isCells=false→z.heap[k]? = some ob→(z3.setCell ⟨lb+2,0,none⟩ v3).heap[k]? = some ob:=fun k ob hob hk=>by
  refine (Below.heap_setCell z3 ⟨lb+2,0,none⟩ v3 k (fun e => ?_)).trans ((hg.block k (Array.getElem?_eq_some_iff.1 hk).1 (fun e => ?_)).trans hk)
  · have e2:k=lb+2:=e;rw [e2,hb] at hk;cases hk;cases hob
  · obtain ⟨cells,hc⟩:=Oz hr.2.choose_spec.1 k e.symm;rw [hk] at hc;cases hc;cases hob
 have hsz:(z3.setCell ⟨lb+2,0,none⟩ v3).heap.size=z3.heap.size:=by simp
 have kr':Zp (lb+3) W (z3.setCell ⟨lb+2,0,none⟩ v3):=⟨Nat.le_trans h.kr.size (by rw [hsz];exact hg.size),fun b cs t hb1 ht hk=>(Below.heap_setCell z3 ⟨lb+2,0,none⟩ v3 b (fun e=>by have e2:b=lb+2:=e;omega)).trans (G3 hr hg ht (h.kr.same b cs t hb1 ht hk))⟩
 refine ⟨⟨Nat.le_trans h.kf.size (by rw [hsz];exact hg.size),fun k ob hk1 hk hob=>hof k ob hob (h.kf.same k ob hk1 hk hob)⟩,kr',
  ⟨Qu (G3 hr hg (by decide) h.bx.b2) (p:=⟨lb+2,0,none⟩) (by simp;omega) _,Qu (G3 hr hg (by decide) h.bx.b3) (p:=⟨lb+2,0,none⟩) (by simp;omega) _,Q5 (h.bx.below.trans (hbk.mono (by omega))) (by omega)⟩,
  Qu (G3 hr hg (by decide) h.lo) (p:=⟨lb+2,0,none⟩) (by simp) _,Qu (G3 hr hg (by decide) h.hi) (p:=⟨lb+2,0,none⟩) (by simp) _,
  ⟨v3,QJ hb3 0 _ rfl,Kd.R_mono (Kd.R_far (p:=⟨lb+2,0,none⟩) (Kd.R_types hr3 hb3 (by decide)) (fun _ hk=>hk.2) _) (fun _ _=>trivial),hv⟩,(Kd.R_reads' (qcy hrow kr')).2.2,by rw [hsz];exact Nat.le_trans h.sz hg.size⟩
theorem qoJ:(Try.prog.info? 25).map (·.size)=some 2∧True:=⟨by
 have h:=qmH
 cases hi:Try.prog.info? 25 with
 | none=>rw [hi] at h;simp at h
 | some i=>rw [hi] at h;simp at h;simp [h.2.1],trivial⟩
theorem ShO.put {w:World} {A0 A1 Ax:Option Addr} {c0 n0 c1 n1 lb:Nat} {x:List Int} {W z z3:World} {o o1 o2:List S25} {go n cap:Nat} (h:ShO w A0 c0 n0 A1 c1 n1 lb (lb+1) (lb+2) (lb+3) Ax x W z o1) (hwl:w.heap.size+2≤lb)
  (hb:z.heap[lb+2]? = some (.cells #[.slice (some ⟨go,0,none⟩) n cap] 32 (0,0))) (hr:Kd.R k25 25 z (lb+3) (fun _=>True) (.slice (some ⟨go,0,none⟩) n cap) o) (hg:z.grownBy z3 (some go)) (hr3:Kd.R k25 25 z3 (lb+3) (fun _=>True) (.slice (some ⟨go,0,none⟩) n cap) o2) (hv:o2≠[])
  {nx cx:Nat} (hrow:Kd.R (Kd.int .i64) 3 W (lb+3) (fun _=>True) (.slice Ax nx cx) x):ShO w A0 c0 n0 A1 c1 n1 lb (lb+1) (lb+2) (lb+3) Ax x W z3 o2:=by
 have hg':z.grownBy z3 (Value.slice (some ⟨go,0,none⟩) n cap).ownBlock:=hg
 have hbk:Below (lb+3) z z3:=(Below.refl _ z).grown hg' h.sz (fun k e=>(Kd.R_bound hr).1 k e |>.2.1)
 have hof:∀ (k:Nat) (ob:Obj),ob.isCells=false→z.heap[k]? = some ob→z3.heap[k]? = some ob:=fun k ob hob hk=>by
  refine (hg'.block k (Array.getElem?_eq_some_iff.1 hk).1 (fun e => ?_)).trans hk
  obtain ⟨cells,hc⟩:=Oz hr.2.choose_spec.1 k e.symm
  rw [hk] at hc
  cases hc
  cases hob
 have kr':Zp (lb+3) W z3:=⟨Nat.le_trans h.kr.size hg.size,fun b cs t hb1 ht hk=>G3 hr hg' ht (h.kr.same b cs t hb1 ht hk)⟩
 refine ⟨⟨Nat.le_trans h.kf.size hg.size,fun k ob hk1 hk hob=>hof k ob hob (h.kf.same k ob hk1 hk hob)⟩,kr',
  ⟨G3 hr hg' (by decide) h.bx.b2,G3 hr hg' (by decide) h.bx.b3,?_⟩,G3 hr hg' (by decide) h.lo,G3 hr hg' (by decide) h.hi,
  ⟨_,G3 hr hg' (by decide) hb,hr3,⟨fun e=>(by cases e),fun e=>absurd e hv⟩⟩,(Kd.R_reads' (qcy hrow kr')).2.2,Nat.le_trans h.sz hg.size⟩
 exact h.bx.below.trans (hbk.mono (by omega))
theorem qk2 (R:Int) (w:World):Calls Try.prog 70 #[.int .i64 R] w fun e w'=>e = .returned (.func (.func 95) #[] #[.pointer (some ⟨w.heap.size,0,none⟩)])∧w'=w.alloc (.cells #[.int .i64 R] 3):=by
 go_enter Try.func70,Try.ntmps70
 go_wp2
 go_ret
 exact ⟨rfl,rfl⟩
set_option maxHeartbeats 8000000 in
set_option maxRecDepth 100000 in
theorem QE.calls (k:Nat) (A0:Option Addr) (c0:Nat) (l0:List (List S25)) (A1:Option Addr) (c1:Nat) (l1:List S25) (r1:List S25) (r2:Int) (w:World) (hr0:Kd.C (Kd.slice 25 k25) w A0 l0.length l0) (hc0:l0.length≤c0) (hr1:Kd.C k25 w A1 l1.length l1) (hc1:l1.length≤c1) (h:QE.f k l0 l1=some (r1,r2)) :
  Calls Try.prog 22 #[.slice A0 l0.length c0,.slice A1 l1.length c1] w fun e w' => ∃ v0_,e = .returned (.tuple #[v0_,.int .i64 r2])∧Kd.V k25 25 w' w.heap.size (fun k_=>w.heap.size≤k_) v0_ r1∧Below w.heap.size w w':=by
 refine (callsIn_wide (n:=3)).1 ?_
 have hmix:Try.prog.follows .mixedOrders=true:=by kernel_rfl
 unfold QE.f at h
 obtain ⟨b0,hb0,h⟩:=Option.bind_eq_some_iff.1 h
 obtain ⟨b1,hb1,h⟩:=Option.bind_eq_some_iff.1 h
 obtain ⟨ok,hok,h⟩:=Option.bind_eq_some_iff.1 h
 have HR0:=Q0.mk hr0
 have HC0:=Q0.mk hc0
 have HR1:=Q0.mk hr1
 have HC1:=Q0.mk hc1
 have HH:=Q0.mk h
 have HB0:=Q0.mk hb0
 have HB1:=Q0.mk hb1
 have HOK:=Q0.mk hok
 clear hr0 hc0 hr1 hc1 h hb0 hb1 hok
 refine callsIn_of_wp_marks Try.func22 rfl trivial ?_ rfl
 simp only [Try.ntmps22,List.size_toArray,List.length_cons,List.length_nil,Nat.reduceAdd,Nat.reduceSub,Array.replicate_succ,Array.replicate_zero,List.push_toArray,List.append_toArray,List.nil_append,List.cons_append]
 gi_wp2
 apply qiZ
 have HX:=Q0.mk (show O3 w A0 c0 l0.length A1 c1 l1.length ((w.alloc (.cells #[.slice A0 l0.length c0] 31)).alloc (.cells #[.slice A1 l1.length c1] 32)) from
  ⟨(Below.heap_alloc _ _ _ (by simp)).trans (World.alloc_heap_new w _),by have:=World.alloc_heap_new (w.alloc (.cells #[.slice A0 l0.length c0] 31)) (.cells #[.slice A1 l1.length c1] 32);rwa [World.size_alloc] at this,Q4 (Q4 (Below.refl _ _) _) _⟩)
 have HLEN:=Q0.mk (show ok=true→1≤l0.length∧l0.length≤3 from fun e=>by
  have h1:=HOK.out
  rw [e] at h1
  have h2:=qkn h1
  have h3:=HB1.out
  rw [h2] at h3
  have h4:b0=true:=by
   cases b0 with
   | true=>rfl
   | false=>simp at h3
  have h5:=HB0.out
  rw [h4] at h5
  have h6:=qhD h5
  omega)
 gi_upto_region 1 with (fail)
 gi_cut [6] from 19 (fun v6 wc=>v6 = .bool b1∧Q0 (O3 w A0 c0 l0.length A1 c1 l1.length wc))
 case first =>
  cases b0 with
  | false =>
   obtain rfl:b1=false:=by have:=HB1.out;simpa using this.symm
   gi_wp2_with (first|(refine ⟨trivial,(callsIn_wide.2 (Qv.calls _ _ _ false _ HB0.out)).mono ?_⟩;rintro e w' ⟨rfl,⟨nd,rfl⟩⟩)|(refine ⟨trivial,?_⟩))
   gi_meet
   case rel=>exact ⟨rfl,⟨HX.out.drew nd⟩⟩
  | true =>
   have HA1:=Q0.mk (show QO.f k l1 (l1.length:Int)=some b1 from HB1.out)
   gi_wp2_with (first|(refine ⟨trivial,(callsIn_wide.2 (Qv.calls _ _ _ true _ HB0.out)).mono ?_⟩;rintro e w' ⟨rfl,⟨nd,rfl⟩⟩)|(refine ⟨trivial,(callsIn_wide.2 (QO.calls k A1 c1 l1 (l1.length:Int) b1 _ ?hx HC1.out HA1.out)).mono ?_⟩;(case hx=>exact Kd.C_below HR1.out (HX.out.drew nd).below);rintro e w' ⟨rfl,hbb⟩))
   gi_meet
   case rel=>exact ⟨rfl,⟨(HX.out.drew nd).keep hbb⟩⟩
 case rest =>
  clear HX HB0 HB1
  obtain ⟨rfl,HX⟩:=hcut
  have hcz2:wc.cell? ⟨w.heap.size,0,none⟩=some (.slice A0 l0.length c0):=(Qb HX.out.b2 0).trans rfl
  gi_wp2
  gi_loopg [6,30] l0.length (fun d v6 v30 wr => ∃ (b:Bool) (i:Nat),v6 = .bool b∧v30 = .int .i64 (i:Int)∧Q0 (i+d=l0.length)∧Q0 (QE.sg k (l1.length:Int) (l0.drop i) b=some ok)∧Q0 (O3 w A0 c0 l0.length A1 c1 l1.length wr))
  case atStart=>exact ⟨b1,0,rfl,rfl,⟨by omega⟩,⟨by simpa using HOK.out⟩,HX⟩
  case round =>
   clear hcz2 HX
   obtain ⟨b,i,rfl,rfl,HD,HS,HX⟩:=hrel
   have hmx:l0.length≤9223372036854775807:=HR0.out.2.1
   by_cases hi:i<l0.length
   ·
    obtain ⟨d,rfl⟩:∃ d,gk=d+1:=⟨gk-1,by have:=HD.out;omega⟩;have qra:wr.cell? ⟨w.heap.size+1,0,none⟩=some (.slice A1 l1.length c1):=(Qb HX.out.b3 0).trans rfl;obtain ⟨ad,A2,c2,ea,hx,hc2,hr2⟩:=ql2 HR0.out (i:Int) (by omega) (by omega);subst ea;replace hx:=(HX.out.below.cell (World.block_lt_of_cell? w _ hx)).trans hx;rw [Int.toNat_natCast] at hx
    have hdrop:l0.drop i=JW l0 i::l0.drop (i+1):=by
     rw [List.drop_eq_getElem_cons hi]
     congr 1
     simp [JW,List.getD_eq_getElem?_getD,List.getElem?_eq_getElem hi]
    have HS2:=Q0.mk (show QE.sg k (l1.length:Int) (JW l0 i::l0.drop (i+1)) b=some ok by rw [← hdrop];exact HS.out);have HCA:=Q0.mk hr2;have HC2:=Q0.mk hc2;clear hdrop hr2 hc2
    cases b with
    | false =>
     gi_wp2_with (refine ⟨trivial,?_⟩)
     gi_roundg d
     case measure=>omega
     case rel=>exact ⟨false,i+1,rfl,by simp,⟨by have:=HD.out;omega⟩,⟨by have:=HS2.out;simpa [QE.sg] using this⟩,HX⟩
    | true =>
     obtain ⟨b3,h3,h4⟩:=Option.bind_eq_some_iff.1 (show (QO.f k (JW l0 i) (l1.length:Int)).bind (fun b=>QE.sg k (l1.length:Int) (l0.drop (i+1)) b)=some ok by have:=HS2.out;simpa [QE.sg] using this);have HS3:=Q0.mk h3;have HS4:=Q0.mk h4;clear h3 h4
     gi_wp2_with (refine ⟨trivial,(callsIn_wide.2 (QO.calls k A2 c2 (JW l0 i) (l1.length:Int) b3 _ ?hx HC2.out HS3.out)).mono ?_⟩;(case hx=>exact Kd.C_below HCA.out HX.out.below);rintro e w' ⟨rfl,hbb⟩)
     gi_roundg d
     case measure=>omega
     case rel=>exact ⟨b3,i+1,rfl,by simp,⟨by have:=HD.out;omega⟩,⟨HS4.out⟩,⟨HX.out.keep hbb⟩⟩
   ·
    have HE:=Q0.mk (show some b=some ok by have:=HS.out;rw [List.drop_eq_nil_of_le (by omega)] at this;exact this);clear HS;obtain rfl:b=ok:=Option.some.inj HE.out;clear HE
    cases b with
    | false =>
     have HF:=HH.out;rw [if_neg (by decide)] at HF
     injection HF with HF
     injection HF with e1 e2
     subst e1 e2
     gi_wp2
     simp only [Exit.noGoto];refine ⟨_,results_tmp2 rfl _ _ _,?_⟩
     exact ⟨_,rfl,Kd.V_nil _ _ _ _ _,HX.out.below⟩
    | true =>
     have HF:=HH.out;rw [if_pos rfl] at HF;have HF:=Q0.mk HF;clear HH
     gi_wp2
     apply wpIn_label
     obtain ⟨lb,hlb⟩:∃ lb,wr.heap.size=lb:=⟨_,rfl⟩;obtain ⟨W0,hW0⟩:∃ W0,((wr.alloc (.cells #[.func (.func 68) #[] #[]] 104)).alloc (.cells #[.func (.func 69) #[] #[]] 104)).alloc (.cells #[.slice none 0 0] 32)=W0:=⟨_,rfl⟩
     have hwlb:w.heap.size≤lb:=by rw [← hlb];exact HX.out.below.size
     have qqo:w.heap.size+2≤lb:=by have:=QY HX.out.b3;omega
     have hs0:W0.heap.size=lb+3:=by rw [← hW0,← hlb];simp
     have hB0:Below wr.heap.size wr W0:=by rw [← hW0];exact Q4 (Q4 (Q4 (Below.refl _ _) _) _) _
     have hX0:=HX.out.keep hB0
     have hlo0:W0.heap[lb]? = some (.cells #[.func (.func 68) #[] #[]] 104 (0,0)):=by
      rw [← hW0,← hlb];exact (Below.heap_alloc _ _ _ (by simp;omega)).trans ((Below.heap_alloc _ _ _ (by simp)).trans (World.alloc_heap_new wr _))
     have hhi0:W0.heap[lb+1]? = some (.cells #[.func (.func 69) #[] #[]] 104 (0,0)):=by
      rw [← hW0,← hlb];refine (Below.heap_alloc _ _ _ (by simp)).trans ?_;have:=World.alloc_heap_new (wr.alloc (.cells #[.func (.func 68) #[] #[]] 104)) (.cells #[.func (.func 69) #[] #[]] 104);rwa [World.size_alloc] at this
     have qu1:W0.heap[lb+2]? = some (.cells #[.slice none 0 0] 32 (0,0)):=by
      rw [← hW0,← hlb];have:=World.alloc_heap_new ((wr.alloc (.cells #[.func (.func 68) #[] #[]] 104)).alloc (.cells #[.func (.func 69) #[] #[]] 104)) (.cells #[.slice none 0 0] 32);rwa [World.size_alloc,World.size_alloc] at this
     rw [hW0,show wr.heap.size+1+1=lb+2 by omega,show wr.heap.size+1=lb+1 by omega,hlb];have HI0:=Q0.mk (show ShI w k l0 l1 A0 c0 A1 c1 lb (lb+1) (lb+2) (lb+3) [] W0 from ⟨⟨_,[],rfl,qu1,Kd.R_nil _ _ _ _ _,by simp⟩,hX0,hlo0,hhi0,by omega⟩);have hcz2:W0.cell? ⟨w.heap.size,0,none⟩=some (.slice A0 l0.length c0):=(Qb hX0.b2 0).trans rfl;clear hX0 hlo0 hhi0 qu1 hB0 HX hW0
     gi_wp2_with (refine ⟨trivial,(callsIn_wide.2 (qk2 _ _)).mono ?_⟩;rintro e w' ⟨rfl,rfl⟩)
     obtain ⟨hR1,hR3⟩:=(by simpa using HLEN.out)
     have hrb:(W0.alloc (.cells #[.int .i64 (l0.length:Int)] 3)).heap[lb+3]? = some (.cells #[.int .i64 (l0.length:Int)] 3 (0,0)):=by
      rw [← hs0];exact World.alloc_heap_new W0 _
     have hs1:(W0.alloc (.cells #[.int .i64 (l0.length:Int)] 3)).heap.size=lb+4:=by simp;omega
     refine qfC (p:=49) (q:=12) (gf:=95) (lb:=#[.pointer (some ⟨lb+3,0,none⟩)]) (B:=lb+3) (xs:=Wa (l0.length-1) 100 []) rfl (enters_of Try.func95 (by kernel_rfl) rfl)
      (qec _ l0.length (lb+3) (lb+3) _ hR1 hR3 (Nat.le_refl _) hrb) (Below.refl _ _) (ShI w k l0 l1 A0 c0 A1 c1 lb (lb+1) (lb+2) (lb+3)) ?hI ?hI0 ?h0 ?assign ?body ?done
     case hI=>exact fun pre W1 W2 row h hg hr=>h.step hg (fun r e=>⟨by have:=(hr r e).1;omega,(hr r e).2⟩)
     case hI0 =>
      intro W1 W2 row h hg hr;obtain ⟨v,out,h1,h2,h3,h4⟩:=h.ex;obtain rfl:[]=out:=Option.some.inj h1;obtain rfl:=h4.2 rfl
      have kp:∀ g o,g<lb+4→W1.heap[g]? = some o→W2.heap[g]? = some o:=fun g o hg2 ho=>(hg.block g (Array.getElem?_eq_some_iff.1 ho).1 (fun e=>by have:=hr g e.symm;omega)).trans ho
      exact ⟨⟨_,[],rfl,kp _ _ (by omega) h2,Kd.R_nil _ _ _ _ _,by simp⟩,⟨kp _ _ (by omega) h.bx.b2,kp _ _ (by omega) h.bx.b3,h.bx.below.grown hg h.bx.below.size (fun r e=>by have:=hr r e;omega)⟩,kp _ _ (by omega) h.lo,kp _ _ (by omega) h.hi,Nat.le_trans h.sz hg.size⟩
     case h0=>exact HI0.out.step (World.grownBy_alloc _ _ none) (fun r e=>by cases e)
     case assign =>
      intro l v W K hK
      gi_wp2
      exact hK
     case body =>
      intro l pre v x W hI hpre hrow
      have hlen:∀ y∈pre++[x],y.length=l0.length:=fun y hy=>by
       have:=qez _ _ _ _ (hpre.subset hy)
       simp at this
       omega
      have hxl:x.length=l0.length:=hlen x (by simp);obtain ⟨Ax,cx,rfl,hcx,hCx⟩:=Kd.R_reads hrow;obtain ⟨vo,out,h1,h2,h3,h4⟩:=hI.ex;have hout:out=[]∨out.length=l0.length:=qjp pre [] out (fun y hy=>hlen y (by simp [hy])) (.inl rfl) h1
      obtain ⟨bb,hag,hst⟩:∃ bb,QE.ag k l0 l1 x l1.length 0=some bb∧QE.all k l0 l1 (pre++[x]) []=some (if bb then QE.wide (if out=[] then x.map (fun n=>⟨n,n⟩) else out) x else out):=by
       obtain ⟨ys,hys⟩:=hpre;have hF:=HF.out;rw [← hys,WN,WN,h1] at hF
       cases hs:QE.st k l0 l1 out x with
       | none=>simp [QE.all,hs] at hF
       | some o =>
        obtain ⟨bb,hb1,hb2⟩:=Option.map_eq_some_iff.1 hs;refine ⟨bb,hb1,?_⟩;rw [WN,h1];simp only [Option.bind_some,QE.all,hs,← hb2]
      have HI:=Q0.mk hI;have HAG:=Q0.mk hag;have HST:=Q0.mk hst;have HOUT:=Q0.mk hout;have HROW:=Q0.mk hrow;have HCX:=Q0.mk hCx;have HN:=Q0.mk h4;have HR3:=Q0.mk h3;have HBO:=Q0.mk h2;have HALL:=Q0.mk h1
      have hmxx:x.length≤3:=by omega
      have HXL:=Q0.mk hxl;clear hI hag hst hout hrow hCx h4 h3 h2 h1 HF hpre hlen hxl;simp only [List.setIfInBounds_toArray,List.set_cons_succ,List.set_cons_zero];have qra:W.cell? ⟨w.heap.size+1,0,none⟩=some (.slice A1 l1.length c1):=(Qb HI.out.bx.b3 0).trans rfl;have qBY:l1.length≤9223372036854775807:=HR1.out.2.1
      gi_wp2
      gi_loopg [52] l1.length (fun d v52 wr => ∃ (i:Nat),v52 = .int .i64 (i:Int)∧Q0 (i+d=l1.length)∧Q0 (QE.ag k l0 l1 x d (i:Int)=some bb)∧Q0 (Below W.heap.size W wr))
      case atStart=>exact ⟨0,rfl,⟨by omega⟩,HAG,⟨Below.refl _ _⟩⟩
      case round =>
       obtain ⟨i,rfl,HD,HA,HB⟩:=hrel
       by_cases hi:i<l1.length
       ·
        obtain ⟨d,rfl⟩:∃ d,gk=d+1:=⟨gk-1,by have:=HD.out;omega⟩;obtain ⟨ad,ea,hx0,hx1⟩:=WO HR1.out (i:Int) (by omega) (by omega);subst ea;replace hx0:=(HI.out.bx.below.cell (World.block_lt_of_cell? w _ hx0)).trans hx0;replace hx1:=(HI.out.bx.below.cell (World.block_lt_of_cell? w _ hx1)).trans hx1;replace hx0:=(HB.out.cell (World.block_lt_of_cell? W _ hx0)).trans hx0;replace hx1:=(HB.out.cell (World.block_lt_of_cell? W _ hx1)).trans hx1;rw [Int.toNat_natCast] at hx0 hx1;have qcp:=Try.underlying25
        gi_wp2
        have hww:w.heap.size≤W.heap.size:=HI.out.bx.below.size;have hlbW:lb+3≤W.heap.size:=HI.out.sz;have hWr:W.heap.size≤wr.heap.size:=HB.out.size;obtain ⟨We,hWe⟩:∃ We,wr.alloc (.cells #[.int .i64 (YX l1 (i:Int)).f0,.int .i64 (YX l1 (i:Int)).f1] 25)=We:=⟨_,rfl⟩
        have hbe:Below wr.heap.size wr We:=by rw [← hWe];exact Q4 (Below.refl _ _) _
        have h14:We.heap[wr.heap.size]? = some (.cells #[.int .i64 (YX l1 (i:Int)).f0,.int .i64 (YX l1 (i:Int)).f1] 25 (0,0)):=by rw [← hWe];exact World.alloc_heap_new wr _
        have hse:We.heap.size=wr.heap.size+1:=by rw [← hWe];simp
        have HBe:=Q0.mk (show Below W.heap.size W We from HB.out.trans (hbe.mono hWr))
        have hSb:∀ z:World,Below We.heap.size We z→(fun z=>z.cell? ⟨lb,0,none⟩=some (.func (.func 68) #[] #[])∧z.cell? ⟨lb+1,0,none⟩=some (.func (.func 69) #[] #[])∧z.cell? ⟨w.heap.size,0,none⟩=some (.slice A0 l0.length c0)∧z.cell? ⟨wr.heap.size,0,none⟩=some (.int .i64 (YX l1 (i:Int)).f0)∧z.cell? ⟨wr.heap.size,1,none⟩=some (.int .i64 (YX l1 (i:Int)).f1)) z:=fun z hz=>by
         have hbz:Below W.heap.size W z:=HBe.out.trans (hz.mono (by omega))
         exact ⟨(Qb (Qp HI.out.lo hbz) 0).trans rfl,(Qb (Qp HI.out.hi hbz) 0).trans rfl,(Qb (Qp HI.out.bx.b2 hbz) 0).trans rfl,(Qb (Qp h14 hz) 0).trans rfl,(Qb (Qp h14 hz) 1).trans rfl⟩
        have hS:(fun z=>z.cell? ⟨lb,0,none⟩=some (.func (.func 68) #[] #[])∧z.cell? ⟨lb+1,0,none⟩=some (.func (.func 69) #[] #[])∧z.cell? ⟨w.heap.size,0,none⟩=some (.slice A0 l0.length c0)∧z.cell? ⟨wr.heap.size,0,none⟩=some (.int .i64 (YX l1 (i:Int)).f0)∧z.cell? ⟨wr.heap.size,1,none⟩=some (.int .i64 (YX l1 (i:Int)).f1)) We.drew:=hSb We.drew (YA (Below.refl _ _));rw [hWe];clear hx0 hx1 qra
        obtain ⟨lo,hlo1,hlo2⟩:=Option.bind_eq_some_iff.1 (show (QZ.f k 0 x l0 (i:Int)).bind (fun lo=>if wrap64 (100*(YX l1 (i:Int)).f1)<lo then some false else
   (QW.f k 0 x l0 (i:Int)).bind fun hi=>if hi<wrap64 (100*(YX l1 (i:Int)).f0) then some false else QE.ag k l0 l1 x d ((i:Int)+1))=some bb from HA.out)
        have HLO:=Q0.mk hlo1;clear hlo1 HA;obtain ⟨qh,hqh⟩:∃ q,IntKind.i64.wrap (100*(YX l1 (i:Int)).f1)=q:=⟨_,rfl⟩;obtain ⟨ql,hql⟩:∃ q,IntKind.i64.wrap (100*(YX l1 (i:Int)).f0)=q:=⟨_,rfl⟩;rw [← Qj,← Qj,hqh,hql] at hlo2
        by_cases cc:qh<lo
        ·
         obtain rfl:false=bb:=by rw [if_pos cc] at hlo2;exact Option.some.inj hlo2
         clear hlo2;have ccb:decide (qh<lo)=true:=decide_eq_true cc;clear cc;refine Ui hmix ?hno1 (by kernel_rfl) ?_
         case hno1=>rintro ⟨a,w,h⟩;exact h
         refine wpAny_of_held (S:=(fun z=>z.cell? ⟨lb,0,none⟩=some (.func (.func 68) #[] #[])∧z.cell? ⟨lb+1,0,none⟩=some (.func (.func 69) #[] #[])∧z.cell? ⟨w.heap.size,0,none⟩=some (.slice A0 l0.length c0)∧z.cell? ⟨wr.heap.size,0,none⟩=some (.int .i64 (YX l1 (i:Int)).f0)∧z.cell? ⟨wr.heap.size,1,none⟩=some (.int .i64 (YX l1 (i:Int)).f1))) _ _ _ _ ?_;change wpAnyH _ _ _ _ _ _ _ _ (World.drew _);refine wpAnyH_take (i:=0) (oi:={ dst:=some 57,op:=_,type:=_,pos:=_,after:=_,guard:=_ }) (v:=?vx2) rfl (by kernel_rfl) (by kernel_rfl) (by kernel_rfl) (fun _ _ _ h=>h) (Or.inl ⟨by rfl,?hyx2⟩) hS ?restx2
         case hyx2 =>
          intro z hz;obtain ⟨z1,z2,z3,z4,z5⟩:=hz;go_simp
          try (with_reducible rfl)
         simp only [Qe,Q7,Qd,Q9,Q8];refine wpAnyH_take (i:=1) (oi:={ dst:=some 58,op:=_,type:=_,pos:=_,after:=_,guard:=_ }) (v:=?vx3) rfl (by kernel_rfl) (by kernel_rfl) (by kernel_rfl) (fun _ _ _ h=>h) (Or.inl ⟨by rfl,?hyx3⟩) hS ?restx3
         case hyx3 =>
          intro z hz;obtain ⟨z1,z2,z3,z4,z5⟩:=hz;go_simp
          try (with_reducible rfl)
         simp only [Qe,Q7,Qd,Q9,Q8];refine wpAnyH_take (i:=2) (oi:={ dst:=some 59,op:=_,type:=_,pos:=_,after:=_,guard:=_ }) (v:=?vx4) rfl (by kernel_rfl) (by kernel_rfl) (by kernel_rfl) (fun _ _ _ h=>h) (Or.inl ⟨by rfl,?hyx4⟩) hS ?restx4
         case hyx4 =>
          intro z hz;obtain ⟨z1,z2,z3,z4,z5⟩:=hz;go_simp
          try (with_reducible rfl)
         simp only [Qe,Q7,Qd,Q9,Q8];refine wpAnyH_take (i:=3) (oi:={ dst:=some 60,op:=_,type:=_,pos:=_,after:=_,guard:=_ }) (v:=?vx5) rfl (by kernel_rfl) (by kernel_rfl) (by kernel_rfl) (fun _ _ _ h=>h) (Or.inl ⟨by rfl,?hyx5⟩) hS ?restx5
         case hyx5 =>
          intro z hz;obtain ⟨z1,z2,z3,z4,z5⟩:=hz;go_simp
          try (with_reducible rfl)
         simp only [Qe,Q7,Qd,Q9,Q8];refine wpAnyH_take (i:=5) (oi:={ dst:=some 62,op:=_,type:=_,pos:=_,after:=_,guard:=_ }) (v:=?vx6) rfl (by kernel_rfl) (by kernel_rfl) (by kernel_rfl) (fun _ _ _ h=>h) (Or.inl ⟨by rfl,?hyx6⟩) hS ?restx6
         case hyx6 =>
          intro z hz;obtain ⟨z1,z2,z3,z4,z5⟩:=hz;go_simp
          try (with_reducible rfl)
         simp only [Qe,Q7,Qd,Q9,Q8];refine wpAnyH_take (i:=6) (oi:={ dst:=some 63,op:=_,type:=_,pos:=_,after:=_,guard:=_ }) (v:=?vx7) rfl (by kernel_rfl) (by kernel_rfl) (by kernel_rfl) (fun _ _ _ h=>h) (Or.inl ⟨by rfl,?hyx7⟩) hS ?restx7
         case hyx7 =>
          intro z hz;obtain ⟨z1,z2,z3,z4,z5⟩:=hz;go_simp
          try (with_reducible rfl)
         simp only [Qe,Q7,Qd,Q9,Q8];refine wpAnyH_take (i:=7) (oi:={ dst:=some 64,op:=_,type:=_,pos:=_,after:=_,guard:=_ }) (v:=?vx8) rfl (by kernel_rfl) (by kernel_rfl) (by kernel_rfl) (fun _ _ _ h=>h) (Or.inl ⟨by rfl,?hyx8⟩) hS ?restx8
         case hyx8 =>
          intro z hz;obtain ⟨z1,z2,z3,z4,z5⟩:=hz;go_simp
          try (with_reducible rfl)
         simp only [Qe,Q7,Qd,Q9,Q8];refine wpAnyH_ready (rs:=[4]) (by kernel_rfl) (by simp) ?_;refine AllReadyH.cons (o:={ dst:=some 61,op:=.call { callee:=.value (.func 71),args:=#[.tmp 57,.tmp 58,.tmp 59,.tmp 60],argTypes:=#[104,37,31,3] },type:=3,pos:=_,after:=_,guard:=none }) rfl (fun K hK => ?_) AllReadyH.nil;refine qa1 Try.func71 (by kernel_rfl) rfl #[.agg #[.func (.func 68) #[] #[]],.slice Ax x.length cx,.slice A0 l0.length c0,.int .i64 (i:Int)] (by rfl) rfl rfl (by (try simp only [List.map_toArray,List.map_cons,List.map_nil]);first|done|rfl) ?_;refine (QZ.calls k 0 Ax cx x A0 c0 l0 (i:Int) lo _ ?q1w18 hcx ?q2w18 HC0.out HLO.out).mono ?_
         case q1w18=>exact Kd.C_below HCX.out (YA HBe.out)
         case q2w18=>exact Kd.C_below HR0.out (HI.out.bx.below.trans ((YA HBe.out).mono hww))
         rintro e w1 ⟨rfl,qeb⟩;refine ⟨_,rfl,?_⟩;have qb1:=Q0.mk (show Below W.heap.size W w1 from (YA HBe.out).trans (qeb.mono (YA HBe.out).size));have hS1:=(show _ from hSb w1 ((show Below We.heap.size We w1 from (YA (Below.refl We.heap.size We)).trans (qeb.mono ((YA (Below.refl We.heap.size We)).size)))));clear hS;refine hK.out _ _ hS1 (fun hS => ?_);simp only [Qe,Q7,Qd,Q9,Q8];refine wpAnyH_take (i:=8) (oi:={ dst:=some 65,op:=_,type:=_,pos:=_,after:=_,guard:=_ }) (v:=?vx9) rfl (by kernel_rfl) (by kernel_rfl) (by kernel_rfl) (fun _ _ _ h=>h) (Or.inl ⟨by rfl,?hyx9⟩) hS ?restx9
         case hyx9 =>
          intro z hz;obtain ⟨z1,z2,z3,z4,z5⟩:=hz;go_simp
          try (with_reducible rfl)
         simp only [Qe,Q7,Qd,Q9,Q8];refine wpAnyH_take (i:=9) (oi:={ dst:=some 66,op:=_,type:=_,pos:=_,after:=_,guard:=_ }) (v:=?vx10) rfl (by kernel_rfl) (by kernel_rfl) (by kernel_rfl) (fun _ _ _ h=>h) (Or.inl ⟨by rfl,?hyx10⟩) hS ?restx10
         case hyx10 =>
          intro z hz;obtain ⟨z1,z2,z3,z4,z5⟩:=hz;go_simp
          try (with_reducible rfl)
         simp only [Qe,Q7,Qd,Q9,Q8];refine wpAnyH_take (i:=10) (oi:={ dst:=some 67,op:=_,type:=_,pos:=_,after:=_,guard:=_ }) (v:=undef) rfl (by kernel_rfl) (by kernel_rfl) (by kernel_rfl) (fun _ _ _ h=>h) (Or.inr ⟨by rfl,rfl⟩) hS ?_;simp only [Qe,Q7,Qd,Q9,Q8];refine wpAnyH_take (i:=11) (oi:={ dst:=some 68,op:=_,type:=_,pos:=_,after:=_,guard:=_ }) (v:=undef) rfl (by kernel_rfl) (by kernel_rfl) (by kernel_rfl) (fun _ _ _ h=>h) (Or.inr ⟨by rfl,rfl⟩) hS ?_;simp only [Qe,Q7,Qd,Q9,Q8];refine wpAnyH_take (i:=12) (oi:={ dst:=some 69,op:=_,type:=_,pos:=_,after:=_,guard:=_ }) (v:=undef) rfl (by kernel_rfl) (by kernel_rfl) (by kernel_rfl) (fun _ _ _ h=>h) (Or.inr ⟨by rfl,rfl⟩) hS ?_;simp only [Qe,Q7,Qd,Q9,Q8];refine wpAnyH_take (i:=13) (oi:={ dst:=some 70,op:=_,type:=_,pos:=_,after:=_,guard:=_ }) (v:=undef) rfl (by kernel_rfl) (by kernel_rfl) (by kernel_rfl) (fun _ _ _ h=>h) (Or.inr ⟨by rfl,rfl⟩) hS ?_;simp only [Qe,Q7,Qd,Q9,Q8];refine wpAnyH_take (i:=14) (oi:={ dst:=some 71,op:=_,type:=_,pos:=_,after:=_,guard:=_ }) (v:=undef) rfl (by kernel_rfl) (by kernel_rfl) (by kernel_rfl) (fun _ _ _ h=>h) (Or.inr ⟨by rfl,rfl⟩) hS ?_;simp only [Qe,Q7,Qd,Q9,Q8];refine wpAnyH_take (i:=15) (oi:={ dst:=some 72,op:=_,type:=_,pos:=_,after:=_,guard:=_ }) (v:=undef) rfl (by kernel_rfl) (by kernel_rfl) (by kernel_rfl) (fun _ _ _ h=>h) (Or.inr ⟨by rfl,rfl⟩) hS ?_;simp only [Qe,Q7,Qd,Q9,Q8];refine wpAnyH_take (i:=16) (oi:={ dst:=some 73,op:=_,type:=_,pos:=_,after:=_,guard:=_ }) (v:=undef) rfl (by kernel_rfl) (by kernel_rfl) (by kernel_rfl) (fun _ _ _ h=>h) (Or.inr ⟨by rfl,rfl⟩) hS ?_;simp only [Qe,Q7,Qd,Q9,Q8];refine wpAnyH_take (i:=17) (oi:={ dst:=some 74,op:=_,type:=_,pos:=_,after:=_,guard:=_ }) (v:=undef) rfl (by kernel_rfl) (by kernel_rfl) (by kernel_rfl) (fun _ _ _ h=>h) (Or.inr ⟨by rfl,rfl⟩) hS ?_;simp only [Qe,Q7,Qd,Q9,Q8];refine wpAnyH_take (i:=18) (oi:={ dst:=some 75,op:=_,type:=_,pos:=_,after:=_,guard:=_ }) (v:=undef) rfl (by kernel_rfl) (by kernel_rfl) (by kernel_rfl) (fun _ _ _ h=>h) (Or.inr ⟨by rfl,rfl⟩) hS ?_;simp only [Qe,Q7,Qd,Q9,Q8];refine wpAnyH_take (i:=19) (oi:={ dst:=some 76,op:=_,type:=_,pos:=_,after:=_,guard:=_ }) (v:=?vx20) rfl (by kernel_rfl) (by kernel_rfl) (by kernel_rfl) (fun _ _ _ h=>h) (Or.inl ⟨by rfl,?hyx20⟩) hS ?restx20
         case hyx20 =>
          intro z hz;obtain ⟨z1,z2,z3,z4,z5⟩:=hz;go_simp
          try (with_reducible rfl)
         simp only [Qe,Q7,Qd,Q9,Q8];refine wpAnyH_done (by kernel_rfl) ?_ _
         gi_wp2
         exact ⟨(KY (Bl:=lb+4) (B:=lb+3) qb1.out).1,(KY (Bl:=lb+4) (B:=lb+3) qb1.out).2,HI.out.same qb1.out (fun o ho=>by rw [HST.out,← ho,HALL.out];rfl)⟩
        ·
         rw [if_neg cc] at hlo2;have ccb:decide (qh<lo)=false:=decide_eq_false cc;clear cc;obtain ⟨hi2,hhi1,hhi2⟩:=Option.bind_eq_some_iff.1 hlo2;have HHI:=Q0.mk hhi1;clear hhi1 hlo2
         by_cases dd:hi2<ql
         ·
          obtain rfl:false=bb:=by rw [if_pos dd] at hhi2;exact Option.some.inj hhi2
          clear hhi2;have ddb:decide (hi2<ql)=true:=decide_eq_true dd;clear dd;refine Ui hmix ?hno21 (by kernel_rfl) ?_
          case hno21=>rintro ⟨a,w,h⟩;exact h
          refine wpAny_of_held (S:=(fun z=>z.cell? ⟨lb,0,none⟩=some (.func (.func 68) #[] #[])∧z.cell? ⟨lb+1,0,none⟩=some (.func (.func 69) #[] #[])∧z.cell? ⟨w.heap.size,0,none⟩=some (.slice A0 l0.length c0)∧z.cell? ⟨wr.heap.size,0,none⟩=some (.int .i64 (YX l1 (i:Int)).f0)∧z.cell? ⟨wr.heap.size,1,none⟩=some (.int .i64 (YX l1 (i:Int)).f1))) _ _ _ _ ?_;change wpAnyH _ _ _ _ _ _ _ _ (World.drew _);refine wpAnyH_take (i:=0) (oi:={ dst:=some 57,op:=_,type:=_,pos:=_,after:=_,guard:=_ }) (v:=?vx22) rfl (by kernel_rfl) (by kernel_rfl) (by kernel_rfl) (fun _ _ _ h=>h) (Or.inl ⟨by rfl,?hyx22⟩) hS ?restx22
          case hyx22 =>
           intro z hz;obtain ⟨z1,z2,z3,z4,z5⟩:=hz;go_simp
           try (with_reducible rfl)
          simp only [Qe,Q7,Qd,Q9,Q8];refine wpAnyH_take (i:=1) (oi:={ dst:=some 58,op:=_,type:=_,pos:=_,after:=_,guard:=_ }) (v:=?vx23) rfl (by kernel_rfl) (by kernel_rfl) (by kernel_rfl) (fun _ _ _ h=>h) (Or.inl ⟨by rfl,?hyx23⟩) hS ?restx23
          case hyx23 =>
           intro z hz;obtain ⟨z1,z2,z3,z4,z5⟩:=hz;go_simp
           try (with_reducible rfl)
          simp only [Qe,Q7,Qd,Q9,Q8];refine wpAnyH_take (i:=2) (oi:={ dst:=some 59,op:=_,type:=_,pos:=_,after:=_,guard:=_ }) (v:=?vx24) rfl (by kernel_rfl) (by kernel_rfl) (by kernel_rfl) (fun _ _ _ h=>h) (Or.inl ⟨by rfl,?hyx24⟩) hS ?restx24
          case hyx24 =>
           intro z hz;obtain ⟨z1,z2,z3,z4,z5⟩:=hz;go_simp
           try (with_reducible rfl)
          simp only [Qe,Q7,Qd,Q9,Q8];refine wpAnyH_take (i:=3) (oi:={ dst:=some 60,op:=_,type:=_,pos:=_,after:=_,guard:=_ }) (v:=?vx25) rfl (by kernel_rfl) (by kernel_rfl) (by kernel_rfl) (fun _ _ _ h=>h) (Or.inl ⟨by rfl,?hyx25⟩) hS ?restx25
          case hyx25 =>
           intro z hz;obtain ⟨z1,z2,z3,z4,z5⟩:=hz;go_simp
           try (with_reducible rfl)
          simp only [Qe,Q7,Qd,Q9,Q8];refine wpAnyH_take (i:=5) (oi:={ dst:=some 62,op:=_,type:=_,pos:=_,after:=_,guard:=_ }) (v:=?vx26) rfl (by kernel_rfl) (by kernel_rfl) (by kernel_rfl) (fun _ _ _ h=>h) (Or.inl ⟨by rfl,?hyx26⟩) hS ?restx26
          case hyx26 =>
           intro z hz;obtain ⟨z1,z2,z3,z4,z5⟩:=hz;go_simp
           try (with_reducible rfl)
          simp only [Qe,Q7,Qd,Q9,Q8];refine wpAnyH_take (i:=6) (oi:={ dst:=some 63,op:=_,type:=_,pos:=_,after:=_,guard:=_ }) (v:=?vx27) rfl (by kernel_rfl) (by kernel_rfl) (by kernel_rfl) (fun _ _ _ h=>h) (Or.inl ⟨by rfl,?hyx27⟩) hS ?restx27
          case hyx27 =>
           intro z hz;obtain ⟨z1,z2,z3,z4,z5⟩:=hz;go_simp
           try (with_reducible rfl)
          simp only [Qe,Q7,Qd,Q9,Q8];refine wpAnyH_take (i:=7) (oi:={ dst:=some 64,op:=_,type:=_,pos:=_,after:=_,guard:=_ }) (v:=?vx28) rfl (by kernel_rfl) (by kernel_rfl) (by kernel_rfl) (fun _ _ _ h=>h) (Or.inl ⟨by rfl,?hyx28⟩) hS ?restx28
          case hyx28 =>
           intro z hz;obtain ⟨z1,z2,z3,z4,z5⟩:=hz;go_simp
           try (with_reducible rfl)
          simp only [Qe,Q7,Qd,Q9,Q8];refine wpAnyH_ready (rs:=[4]) (by kernel_rfl) (by simp) ?_;refine AllReadyH.cons (o:={ dst:=some 61,op:=.call { callee:=.value (.func 71),args:=#[.tmp 57,.tmp 58,.tmp 59,.tmp 60],argTypes:=#[104,37,31,3] },type:=3,pos:=_,after:=_,guard:=none }) rfl (fun K hK => ?_) AllReadyH.nil;refine qa1 Try.func71 (by kernel_rfl) rfl #[.agg #[.func (.func 68) #[] #[]],.slice Ax x.length cx,.slice A0 l0.length c0,.int .i64 (i:Int)] (by rfl) rfl rfl (by (try simp only [List.map_toArray,List.map_cons,List.map_nil]);first|done|rfl) ?_;refine (QZ.calls k 0 Ax cx x A0 c0 l0 (i:Int) lo _ ?q1w128 hcx ?q2w128 HC0.out HLO.out).mono ?_
          case q1w128=>exact Kd.C_below HCX.out (YA HBe.out)
          case q2w128=>exact Kd.C_below HR0.out (HI.out.bx.below.trans ((YA HBe.out).mono hww))
          rintro e w1 ⟨rfl,qeb⟩;refine ⟨_,rfl,?_⟩;have qb1:=Q0.mk (show Below W.heap.size W w1 from (YA HBe.out).trans (qeb.mono (YA HBe.out).size));have hS1:=(show _ from hSb w1 ((show Below We.heap.size We w1 from (YA (Below.refl We.heap.size We)).trans (qeb.mono ((YA (Below.refl We.heap.size We)).size)))));clear hS;refine hK.out _ _ hS1 (fun hS => ?_);simp only [Qe,Q7,Qd,Q9,Q8];refine wpAnyH_take (i:=8) (oi:={ dst:=some 65,op:=_,type:=_,pos:=_,after:=_,guard:=_ }) (v:=?vx29) rfl (by kernel_rfl) (by kernel_rfl) (by kernel_rfl) (fun _ _ _ h=>h) (Or.inl ⟨by rfl,?hyx29⟩) hS ?restx29
          case hyx29 =>
           intro z hz;obtain ⟨z1,z2,z3,z4,z5⟩:=hz;go_simp
           try (with_reducible rfl)
          simp only [Qe,Q7,Qd,Q9,Q8];refine wpAnyH_take (i:=9) (oi:={ dst:=some 66,op:=_,type:=_,pos:=_,after:=_,guard:=_ }) (v:=?vx30) rfl (by kernel_rfl) (by kernel_rfl) (by kernel_rfl) (fun _ _ _ h=>h) (Or.inl ⟨by rfl,?hyx30⟩) hS ?restx30
          case hyx30 =>
           intro z hz;obtain ⟨z1,z2,z3,z4,z5⟩:=hz;go_simp
           try (with_reducible rfl)
          simp only [Qe,Q7,Qd,Q9,Q8];refine wpAnyH_take (i:=10) (oi:={ dst:=some 67,op:=_,type:=_,pos:=_,after:=_,guard:=_ }) (v:=?vx31) rfl (by kernel_rfl) (by kernel_rfl) (by kernel_rfl) (fun _ _ _ h=>h) (Or.inl ⟨by rfl,?hyx31⟩) hS ?restx31
          case hyx31 =>
           intro z hz;obtain ⟨z1,z2,z3,z4,z5⟩:=hz;go_simp
           try (with_reducible rfl)
          simp only [Qe,Q7,Qd,Q9,Q8];refine wpAnyH_take (i:=11) (oi:={ dst:=some 68,op:=_,type:=_,pos:=_,after:=_,guard:=_ }) (v:=?vx32) rfl (by kernel_rfl) (by kernel_rfl) (by kernel_rfl) (fun _ _ _ h=>h) (Or.inl ⟨by rfl,?hyx32⟩) hS ?restx32
          case hyx32 =>
           intro z hz;obtain ⟨z1,z2,z3,z4,z5⟩:=hz;go_simp
           try (with_reducible rfl)
          simp only [Qe,Q7,Qd,Q9,Q8];refine wpAnyH_take (i:=12) (oi:={ dst:=some 69,op:=_,type:=_,pos:=_,after:=_,guard:=_ }) (v:=?vx33) rfl (by kernel_rfl) (by kernel_rfl) (by kernel_rfl) (fun _ _ _ h=>h) (Or.inl ⟨by rfl,?hyx33⟩) hS ?restx33
          case hyx33 =>
           intro z hz;obtain ⟨z1,z2,z3,z4,z5⟩:=hz;go_simp
           try (with_reducible rfl)
          simp only [Qe,Q7,Qd,Q9,Q8];refine wpAnyH_take (i:=13) (oi:={ dst:=some 70,op:=_,type:=_,pos:=_,after:=_,guard:=_ }) (v:=?vx34) rfl (by kernel_rfl) (by kernel_rfl) (by kernel_rfl) (fun _ _ _ h=>h) (Or.inl ⟨by rfl,?hyx34⟩) hS ?restx34
          case hyx34 =>
           intro z hz;obtain ⟨z1,z2,z3,z4,z5⟩:=hz;go_simp
           try (with_reducible rfl)
          simp only [Qe,Q7,Qd,Q9,Q8];refine wpAnyH_take (i:=15) (oi:={ dst:=some 72,op:=_,type:=_,pos:=_,after:=_,guard:=_ }) (v:=?vx35) rfl (by kernel_rfl) (by kernel_rfl) (by kernel_rfl) (fun _ _ _ h=>h) (Or.inl ⟨by rfl,?hyx35⟩) hS ?restx35
          case hyx35 =>
           intro z hz;obtain ⟨z1,z2,z3,z4,z5⟩:=hz;go_simp
           try (with_reducible rfl)
          simp only [Qe,Q7,Qd,Q9,Q8];refine wpAnyH_take (i:=16) (oi:={ dst:=some 73,op:=_,type:=_,pos:=_,after:=_,guard:=_ }) (v:=?vx36) rfl (by kernel_rfl) (by kernel_rfl) (by kernel_rfl) (fun _ _ _ h=>h) (Or.inl ⟨by rfl,?hyx36⟩) hS ?restx36
          case hyx36 =>
           intro z hz;obtain ⟨z1,z2,z3,z4,z5⟩:=hz;go_simp
           try (with_reducible rfl)
          simp only [Qe,Q7,Qd,Q9,Q8];refine wpAnyH_take (i:=17) (oi:={ dst:=some 74,op:=_,type:=_,pos:=_,after:=_,guard:=_ }) (v:=?vx37) rfl (by kernel_rfl) (by kernel_rfl) (by kernel_rfl) (fun _ _ _ h=>h) (Or.inl ⟨by rfl,?hyx37⟩) hS ?restx37
          case hyx37 =>
           intro z hz;obtain ⟨z1,z2,z3,z4,z5⟩:=hz;go_simp
           try (with_reducible rfl)
          simp only [Qe,Q7,Qd,Q9,Q8];have hbX:=(YA (Below.refl We.heap.size We)).trans (qeb.mono (Nat.le_refl We.heap.size));refine wpAnyH_ready (rs:=[14]) (by kernel_rfl) (by simp) ?_;refine AllReadyH.cons (o:={ dst:=some 71,op:=.call { callee:=.value (.func 71),args:=#[.tmp 67,.tmp 68,.tmp 69,.tmp 70],argTypes:=#[104,37,31,3] },type:=3,pos:=_,after:=_,guard:=some (9,false) }) rfl (fun K hK => ?_) AllReadyH.nil;refine qa1 Try.func71 (by kernel_rfl) rfl #[.agg #[.func (.func 69) #[] #[]],.slice Ax x.length cx,.slice A0 l0.length c0,.int .i64 (i:Int)] (by rfl) rfl rfl (by (try simp only [List.map_toArray,List.map_cons,List.map_nil]);first|done|rfl) ?_;refine (QW.calls k 0 Ax cx x A0 c0 l0 (i:Int) hi2 _ ?q1w237 hcx ?q2w237 HC0.out HHI.out).mono ?_
          case q1w237=>exact Kd.C_below HCX.out qb1.out
          case q2w237=>exact Kd.C_below HR0.out (HI.out.bx.below.trans (qb1.out.mono hww))
          rintro e w2 ⟨rfl,hbw2⟩;refine ⟨_,rfl,?_⟩;have qlH:=Q0.mk (show Below W.heap.size W w2 from qb1.out.trans (hbw2.mono qb1.out.size));have hS1:=(show _ from hSb w2 ((show Below We.heap.size We w2 from hbX.trans (hbw2.mono (hbX.size)))));clear hS;refine hK.out _ _ hS1 (fun hS => ?_);simp only [Qe,Q7,Qd,Q9,Q8];refine wpAnyH_take (i:=18) (oi:={ dst:=some 75,op:=_,type:=_,pos:=_,after:=_,guard:=_ }) (v:=?vx38) rfl (by kernel_rfl) (by kernel_rfl) (by kernel_rfl) (fun _ _ _ h=>h) (Or.inl ⟨by rfl,?hyx38⟩) hS ?restx38
          case hyx38 =>
           intro z hz;obtain ⟨z1,z2,z3,z4,z5⟩:=hz;go_simp
           try (with_reducible rfl)
          simp only [Qe,Q7,Qd,Q9,Q8];refine wpAnyH_take (i:=19) (oi:={ dst:=some 76,op:=_,type:=_,pos:=_,after:=_,guard:=_ }) (v:=?vx39) rfl (by kernel_rfl) (by kernel_rfl) (by kernel_rfl) (fun _ _ _ h=>h) (Or.inl ⟨by rfl,?hyx39⟩) hS ?restx39
          case hyx39 =>
           intro z hz;obtain ⟨z1,z2,z3,z4,z5⟩:=hz;go_simp
           try (with_reducible rfl)
          simp only [Qe,Q7,Qd,Q9,Q8];refine wpAnyH_done (by kernel_rfl) ?_ _
          gi_wp2
          exact ⟨(KY (Bl:=lb+4) (B:=lb+3) qlH.out).1,(KY (Bl:=lb+4) (B:=lb+3) qlH.out).2,HI.out.same qlH.out (fun o ho=>by rw [HST.out,← ho,HALL.out];rfl)⟩
         ·
          rw [if_neg dd] at hhi2;have HA2:=Q0.mk hhi2;have ddb:decide (hi2<ql)=false:=decide_eq_false dd;clear dd hhi2;refine Ui hmix ?hno40 (by kernel_rfl) ?_
          case hno40=>rintro ⟨a,w,h⟩;exact h
          refine wpAny_of_held (S:=(fun z=>z.cell? ⟨lb,0,none⟩=some (.func (.func 68) #[] #[])∧z.cell? ⟨lb+1,0,none⟩=some (.func (.func 69) #[] #[])∧z.cell? ⟨w.heap.size,0,none⟩=some (.slice A0 l0.length c0)∧z.cell? ⟨wr.heap.size,0,none⟩=some (.int .i64 (YX l1 (i:Int)).f0)∧z.cell? ⟨wr.heap.size,1,none⟩=some (.int .i64 (YX l1 (i:Int)).f1))) _ _ _ _ ?_;change wpAnyH _ _ _ _ _ _ _ _ (World.drew _);refine wpAnyH_take (i:=0) (oi:={ dst:=some 57,op:=_,type:=_,pos:=_,after:=_,guard:=_ }) (v:=?vx41) rfl (by kernel_rfl) (by kernel_rfl) (by kernel_rfl) (fun _ _ _ h=>h) (Or.inl ⟨by rfl,?hyx41⟩) hS ?restx41
          case hyx41 =>
           intro z hz;obtain ⟨z1,z2,z3,z4,z5⟩:=hz;go_simp
           try (with_reducible rfl)
          simp only [Qe,Q7,Qd,Q9,Q8];refine wpAnyH_take (i:=1) (oi:={ dst:=some 58,op:=_,type:=_,pos:=_,after:=_,guard:=_ }) (v:=?vx42) rfl (by kernel_rfl) (by kernel_rfl) (by kernel_rfl) (fun _ _ _ h=>h) (Or.inl ⟨by rfl,?hyx42⟩) hS ?restx42
          case hyx42 =>
           intro z hz;obtain ⟨z1,z2,z3,z4,z5⟩:=hz;go_simp
           try (with_reducible rfl)
          simp only [Qe,Q7,Qd,Q9,Q8];refine wpAnyH_take (i:=2) (oi:={ dst:=some 59,op:=_,type:=_,pos:=_,after:=_,guard:=_ }) (v:=?vx43) rfl (by kernel_rfl) (by kernel_rfl) (by kernel_rfl) (fun _ _ _ h=>h) (Or.inl ⟨by rfl,?hyx43⟩) hS ?restx43
          case hyx43 =>
           intro z hz;obtain ⟨z1,z2,z3,z4,z5⟩:=hz;go_simp
           try (with_reducible rfl)
          simp only [Qe,Q7,Qd,Q9,Q8];refine wpAnyH_take (i:=3) (oi:={ dst:=some 60,op:=_,type:=_,pos:=_,after:=_,guard:=_ }) (v:=?vx44) rfl (by kernel_rfl) (by kernel_rfl) (by kernel_rfl) (fun _ _ _ h=>h) (Or.inl ⟨by rfl,?hyx44⟩) hS ?restx44
          case hyx44 =>
           intro z hz;obtain ⟨z1,z2,z3,z4,z5⟩:=hz;go_simp
           try (with_reducible rfl)
          simp only [Qe,Q7,Qd,Q9,Q8];refine wpAnyH_take (i:=5) (oi:={ dst:=some 62,op:=_,type:=_,pos:=_,after:=_,guard:=_ }) (v:=?vx45) rfl (by kernel_rfl) (by kernel_rfl) (by kernel_rfl) (fun _ _ _ h=>h) (Or.inl ⟨by rfl,?hyx45⟩) hS ?restx45
          case hyx45 =>
           intro z hz;obtain ⟨z1,z2,z3,z4,z5⟩:=hz;go_simp
           try (with_reducible rfl)
          simp only [Qe,Q7,Qd,Q9,Q8];refine wpAnyH_take (i:=6) (oi:={ dst:=some 63,op:=_,type:=_,pos:=_,after:=_,guard:=_ }) (v:=?vx46) rfl (by kernel_rfl) (by kernel_rfl) (by kernel_rfl) (fun _ _ _ h=>h) (Or.inl ⟨by rfl,?hyx46⟩) hS ?restx46
          case hyx46 =>
           intro z hz;obtain ⟨z1,z2,z3,z4,z5⟩:=hz;go_simp
           try (with_reducible rfl)
          simp only [Qe,Q7,Qd,Q9,Q8];refine wpAnyH_take (i:=7) (oi:={ dst:=some 64,op:=_,type:=_,pos:=_,after:=_,guard:=_ }) (v:=?vx47) rfl (by kernel_rfl) (by kernel_rfl) (by kernel_rfl) (fun _ _ _ h=>h) (Or.inl ⟨by rfl,?hyx47⟩) hS ?restx47
          case hyx47 =>
           intro z hz;obtain ⟨z1,z2,z3,z4,z5⟩:=hz;go_simp
           try (with_reducible rfl)
          simp only [Qe,Q7,Qd,Q9,Q8];refine wpAnyH_ready (rs:=[4]) (by kernel_rfl) (by simp) ?_;refine AllReadyH.cons (o:={ dst:=some 61,op:=.call { callee:=.value (.func 71),args:=#[.tmp 57,.tmp 58,.tmp 59,.tmp 60],argTypes:=#[104,37,31,3] },type:=3,pos:=_,after:=_,guard:=none }) rfl (fun K hK => ?_) AllReadyH.nil;refine qa1 Try.func71 (by kernel_rfl) rfl #[.agg #[.func (.func 68) #[] #[]],.slice Ax x.length cx,.slice A0 l0.length c0,.int .i64 (i:Int)] (by rfl) rfl rfl (by (try simp only [List.map_toArray,List.map_cons,List.map_nil]);first|done|rfl) ?_;refine (QZ.calls k 0 Ax cx x A0 c0 l0 (i:Int) lo _ ?q1w147 hcx ?q2w147 HC0.out HLO.out).mono ?_
          case q1w147=>exact Kd.C_below HCX.out (YA HBe.out)
          case q2w147=>exact Kd.C_below HR0.out (HI.out.bx.below.trans ((YA HBe.out).mono hww))
          rintro e w1 ⟨rfl,qeb⟩;refine ⟨_,rfl,?_⟩;have qb1:=Q0.mk (show Below W.heap.size W w1 from (YA HBe.out).trans (qeb.mono (YA HBe.out).size));have hS1:=(show _ from hSb w1 ((show Below We.heap.size We w1 from (YA (Below.refl We.heap.size We)).trans (qeb.mono ((YA (Below.refl We.heap.size We)).size)))));clear hS;refine hK.out _ _ hS1 (fun hS => ?_);simp only [Qe,Q7,Qd,Q9,Q8];refine wpAnyH_take (i:=8) (oi:={ dst:=some 65,op:=_,type:=_,pos:=_,after:=_,guard:=_ }) (v:=?vx48) rfl (by kernel_rfl) (by kernel_rfl) (by kernel_rfl) (fun _ _ _ h=>h) (Or.inl ⟨by rfl,?hyx48⟩) hS ?restx48
          case hyx48 =>
           intro z hz;obtain ⟨z1,z2,z3,z4,z5⟩:=hz;go_simp
           try (with_reducible rfl)
          simp only [Qe,Q7,Qd,Q9,Q8];refine wpAnyH_take (i:=9) (oi:={ dst:=some 66,op:=_,type:=_,pos:=_,after:=_,guard:=_ }) (v:=?vx49) rfl (by kernel_rfl) (by kernel_rfl) (by kernel_rfl) (fun _ _ _ h=>h) (Or.inl ⟨by rfl,?hyx49⟩) hS ?restx49
          case hyx49 =>
           intro z hz;obtain ⟨z1,z2,z3,z4,z5⟩:=hz;go_simp
           try (with_reducible rfl)
          simp only [Qe,Q7,Qd,Q9,Q8];refine wpAnyH_take (i:=10) (oi:={ dst:=some 67,op:=_,type:=_,pos:=_,after:=_,guard:=_ }) (v:=?vx50) rfl (by kernel_rfl) (by kernel_rfl) (by kernel_rfl) (fun _ _ _ h=>h) (Or.inl ⟨by rfl,?hyx50⟩) hS ?restx50
          case hyx50 =>
           intro z hz;obtain ⟨z1,z2,z3,z4,z5⟩:=hz;go_simp
           try (with_reducible rfl)
          simp only [Qe,Q7,Qd,Q9,Q8];refine wpAnyH_take (i:=11) (oi:={ dst:=some 68,op:=_,type:=_,pos:=_,after:=_,guard:=_ }) (v:=?vx51) rfl (by kernel_rfl) (by kernel_rfl) (by kernel_rfl) (fun _ _ _ h=>h) (Or.inl ⟨by rfl,?hyx51⟩) hS ?restx51
          case hyx51 =>
           intro z hz;obtain ⟨z1,z2,z3,z4,z5⟩:=hz;go_simp
           try (with_reducible rfl)
          simp only [Qe,Q7,Qd,Q9,Q8];refine wpAnyH_take (i:=12) (oi:={ dst:=some 69,op:=_,type:=_,pos:=_,after:=_,guard:=_ }) (v:=?vx52) rfl (by kernel_rfl) (by kernel_rfl) (by kernel_rfl) (fun _ _ _ h=>h) (Or.inl ⟨by rfl,?hyx52⟩) hS ?restx52
          case hyx52 =>
           intro z hz;obtain ⟨z1,z2,z3,z4,z5⟩:=hz;go_simp
           try (with_reducible rfl)
          simp only [Qe,Q7,Qd,Q9,Q8];refine wpAnyH_take (i:=13) (oi:={ dst:=some 70,op:=_,type:=_,pos:=_,after:=_,guard:=_ }) (v:=?vx53) rfl (by kernel_rfl) (by kernel_rfl) (by kernel_rfl) (fun _ _ _ h=>h) (Or.inl ⟨by rfl,?hyx53⟩) hS ?restx53
          case hyx53 =>
           intro z hz;obtain ⟨z1,z2,z3,z4,z5⟩:=hz;go_simp
           try (with_reducible rfl)
          simp only [Qe,Q7,Qd,Q9,Q8];refine wpAnyH_take (i:=15) (oi:={ dst:=some 72,op:=_,type:=_,pos:=_,after:=_,guard:=_ }) (v:=?vx54) rfl (by kernel_rfl) (by kernel_rfl) (by kernel_rfl) (fun _ _ _ h=>h) (Or.inl ⟨by rfl,?hyx54⟩) hS ?restx54
          case hyx54 =>
           intro z hz;obtain ⟨z1,z2,z3,z4,z5⟩:=hz;go_simp
           try (with_reducible rfl)
          simp only [Qe,Q7,Qd,Q9,Q8];refine wpAnyH_take (i:=16) (oi:={ dst:=some 73,op:=_,type:=_,pos:=_,after:=_,guard:=_ }) (v:=?vx55) rfl (by kernel_rfl) (by kernel_rfl) (by kernel_rfl) (fun _ _ _ h=>h) (Or.inl ⟨by rfl,?hyx55⟩) hS ?restx55
          case hyx55 =>
           intro z hz;obtain ⟨z1,z2,z3,z4,z5⟩:=hz;go_simp
           try (with_reducible rfl)
          simp only [Qe,Q7,Qd,Q9,Q8];refine wpAnyH_take (i:=17) (oi:={ dst:=some 74,op:=_,type:=_,pos:=_,after:=_,guard:=_ }) (v:=?vx56) rfl (by kernel_rfl) (by kernel_rfl) (by kernel_rfl) (fun _ _ _ h=>h) (Or.inl ⟨by rfl,?hyx56⟩) hS ?restx56
          case hyx56 =>
           intro z hz;obtain ⟨z1,z2,z3,z4,z5⟩:=hz;go_simp
           try (with_reducible rfl)
          simp only [Qe,Q7,Qd,Q9,Q8];have hbX:=(YA (Below.refl We.heap.size We)).trans (qeb.mono (Nat.le_refl We.heap.size));refine wpAnyH_ready (rs:=[14]) (by kernel_rfl) (by simp) ?_;refine AllReadyH.cons (o:={ dst:=some 71,op:=.call { callee:=.value (.func 71),args:=#[.tmp 67,.tmp 68,.tmp 69,.tmp 70],argTypes:=#[104,37,31,3] },type:=3,pos:=_,after:=_,guard:=some (9,false) }) rfl (fun K hK => ?_) AllReadyH.nil;refine qa1 Try.func71 (by kernel_rfl) rfl #[.agg #[.func (.func 69) #[] #[]],.slice Ax x.length cx,.slice A0 l0.length c0,.int .i64 (i:Int)] (by rfl) rfl rfl (by (try simp only [List.map_toArray,List.map_cons,List.map_nil]);first|done|rfl) ?_;refine (QW.calls k 0 Ax cx x A0 c0 l0 (i:Int) hi2 _ ?q1w256 hcx ?q2w256 HC0.out HHI.out).mono ?_
          case q1w256=>exact Kd.C_below HCX.out qb1.out
          case q2w256=>exact Kd.C_below HR0.out (HI.out.bx.below.trans (qb1.out.mono hww))
          rintro e w2 ⟨rfl,hbw2⟩;refine ⟨_,rfl,?_⟩;have qlH:=Q0.mk (show Below W.heap.size W w2 from qb1.out.trans (hbw2.mono qb1.out.size));have hS1:=(show _ from hSb w2 ((show Below We.heap.size We w2 from hbX.trans (hbw2.mono (hbX.size)))));clear hS;refine hK.out _ _ hS1 (fun hS => ?_);simp only [Qe,Q7,Qd,Q9,Q8];refine wpAnyH_take (i:=18) (oi:={ dst:=some 75,op:=_,type:=_,pos:=_,after:=_,guard:=_ }) (v:=?vx57) rfl (by kernel_rfl) (by kernel_rfl) (by kernel_rfl) (fun _ _ _ h=>h) (Or.inl ⟨by rfl,?hyx57⟩) hS ?restx57
          case hyx57 =>
           intro z hz;obtain ⟨z1,z2,z3,z4,z5⟩:=hz;go_simp
           try (with_reducible rfl)
          simp only [Qe,Q7,Qd,Q9,Q8];refine wpAnyH_take (i:=19) (oi:={ dst:=some 76,op:=_,type:=_,pos:=_,after:=_,guard:=_ }) (v:=?vx58) rfl (by kernel_rfl) (by kernel_rfl) (by kernel_rfl) (fun _ _ _ h=>h) (Or.inl ⟨by rfl,?hyx58⟩) hS ?restx58
          case hyx58 =>
           intro z hz;obtain ⟨z1,z2,z3,z4,z5⟩:=hz;go_simp
           try (with_reducible rfl)
          simp only [Qe,Q7,Qd,Q9,Q8];refine wpAnyH_done (by kernel_rfl) ?_ _
          gi_wp2
          gi_roundg d
          case measure=>omega
          case rel=>exact ⟨i+1,by simp,⟨by have:=HD.out;omega⟩,⟨HA2.out⟩,qlH⟩
       ·
        have hgk:gk=0:=by have:=HD.out;omega
        subst hgk;obtain rfl:true=bb:=Option.some.inj HA.out;clear HA
        have HO:=Q0.mk (show ShO w A0 c0 l0.length A1 c1 l1.length lb (lb+1) (lb+2) (lb+3) Ax x W wr out from
         ⟨(KY (Bl:=lb+4) (B:=lb+3) HB.out).1,(KY (Bl:=lb+4) (B:=lb+3) HB.out).2,HI.out.bx.keep HB.out,Qp HI.out.lo HB.out,Qp HI.out.hi HB.out,⟨vo,Qp HBO.out HB.out,Kd.R_below HR3.out HB.out,HN.out⟩,Kd.C_below HCX.out HB.out,Nat.le_trans HI.out.sz HB.out.size⟩)
        clear HD HB qra
        gi_upto_region 18 with (fail)
        gi_cut [79] from 80 (fun v79 wc=>v79 = .bool (decide (out=[]))∧Q0 (ShO w A0 c0 l0.length A1 c1 l1.length lb (lb+1) (lb+2) (lb+3) Ax x W wc out))
        case first =>
         obtain ⟨v2,g1,g2,g3⟩:=HO.out.ex;have hob:wr.cell? ⟨lb+2,0,none⟩=some v2:=(Qb g1 0).trans rfl
         by_cases ho:out=[]
         ·
          rw [g3.2 ho] at hob;have hvn:=Lib.run_eql_slice_nil (P:=Try.prog) wr 32 25 none 0 0 0 0 Try.underlying32;clear g1 g2 g3
          gi_wp2
          gi_meet
          case rel=>exact ⟨by rw [decide_eq_true ho],HO⟩
         ·
          obtain ⟨go,co,eo,_,_,_⟩:=Kd.R_form g2 (List.length_pos_iff.2 ho);rw [eo] at hob;have hvn:=Lib.run_eql_slice_nil (P:=Try.prog) wr 32 25 (some ⟨go,0,none⟩) out.length co 0 0 Try.underlying32;clear g1 g2 g3 eo
          gi_wp2
          gi_meet
          case rel=>exact ⟨by rw [decide_eq_false ho],HO⟩
        case rest =>
         clear HO;obtain ⟨rfl,HO⟩:=hcut
         gi_upto_if 79 with (fail)
         gi_cut [] from 79 (fun wc=>Q0 (ShO w A0 c0 l0.length A1 c1 l1.length lb (lb+1) (lb+2) (lb+3) Ax x W wc (if out=[] then x.map (fun n=>⟨n,n⟩) else out)))
         case first =>
          by_cases ho:out=[]
          ·
           have hod:decide (out=[])=true:=decide_eq_true ho;subst ho
           gi_wp2
           gi_loopg [82] x.length (fun d v82 wr => ∃ (i:Nat),v82 = .int .i64 (i:Int)∧Q0 (i+d=x.length)∧Q0 (ShO w A0 c0 l0.length A1 c1 l1.length lb (lb+1) (lb+2) (lb+3) Ax x W wr ((x.take i).map (fun n=>⟨n,n⟩))))
           case atStart=>exact ⟨0,rfl,⟨by omega⟩,⟨by simpa using HO.out⟩⟩
           case round =>
            obtain ⟨j,rfl,HJ,HO2⟩:=hrel
            by_cases hj:j<x.length
            ·
             obtain ⟨d,rfl⟩:∃ d,gk=d+1:=⟨gk-1,by have:=HJ.out;omega⟩;obtain ⟨ad,ea,hx0⟩:=Kd.at_int HO2.out.cx (j:Int) (by omega) (by omega);subst ea;rw [Int.toNat_natCast] at hx0;obtain ⟨v2,g1,g2,g3⟩:=HO2.out.ex;have hob:wr.cell? ⟨lb+2,0,none⟩=some v2:=(Qb g1 0).trans rfl;have hof:=Qc g1 0;have HG1:=Q0.mk g1;have HG2:=Q0.mk g2;have HG3:=Q0.mk g3;clear g1 g2 g3;have qcp:=Try.underlying25
             gi_upto_region 22 with (fail)
             refine qef ?hnoB (by kernel_rfl) ?_
             case hnoB=>rintro ⟨a,w,h⟩;exact h
             go_wp2_with (at_builtin;refine Stop.out ?_)
             refine Stop.mk ?_
             have qBX:(((x.take j).map (fun n=>(⟨n,n⟩:S25))).length+1)*16≤140737488355328:=by simp;omega
             refine Kd.R_append k25 (w0:=wr) (lb+3) rfl (.tmp 86) (.tmp 90) 32 25 (.agg #[.int .i64 0,.int .i64 0]) 16 rfl Try.underlying32 qmH rfl (by decide) (by omega) v2 ((x.take j).map (fun n=>⟨n,n⟩)) ⟨rd x j,rd x j⟩ [.int .i64 (rd x j),.int .i64 (rd x j)] (fun _=>True) (fun _=>False) rfl rfl (Uh _ _ _ ⟨rd x j,rd x j⟩) (fun _ hk=>hk.elim) (fun _ _=>trivial) HG2.out (Below.refl _ _) HO2.out.sz qBX ?_;intro v3 w3 hr3 hb3 qrh qFT;obtain ⟨go3,co3,rfl,_,_,_⟩:=Kd.R_form hr3 (by simp);have qGk:w3.cell? ⟨lb+2,0,none⟩=some v2:=(Qb (G3 HG2.out qrh (by decide) HG1.out) 0).trans rfl;have qGl:=Qc (G3 HG2.out qrh (by decide) HG1.out) 0;have HSN:=Q0.mk (HO2.out.app qqo HG1.out HG2.out qrh hr3 (by simp) HROW.out)
             go_wp2
             gi_wp2
             gi_roundg d
             case measure=>omega
             case rel =>
              refine ⟨j+1,by simp,⟨by have:=HJ.out;omega⟩,⟨?_⟩⟩;have h5:=HSN.out;rw [List.take_succ_eq_append_getElem hj,List.map_append,List.map_singleton]
              have h6:rd x (j:Int)=x[j]:=by simp [rd,List.getD_eq_getElem?_getD,List.getElem?_eq_getElem hj]
              rw [← h6]
              simpa using h5
            ·
             have hjx:j=x.length:=by have:=HJ.out;omega
             subst hjx
             gi_wp2
             gi_meet
             case rel=>exact ⟨by have:=HO2.out;rw [List.take_length] at this;exact this⟩
          ·
           have hod:decide (out=[])=false:=decide_eq_false ho
           gi_wp2
           gi_meet
           case rel=>exact ⟨by rw [if_neg ho];exact HO.out⟩
         case rest =>
          clear HO;have HO:=hcut;obtain ⟨o2,ho2⟩:∃ o2,(if out=[] then x.map (fun n=>(⟨n,n⟩:S25)) else out)=o2:=⟨_,rfl⟩
          have hl2:o2.length=x.length:=by
           rw [← ho2]
           rcases HOUT.out with h|h
           · rw [if_pos h];simp
           ·
            by_cases h0:out=[]
            · rw [if_pos h0];simp
            · rw [if_neg h0,h,HXL.out]
          rw [ho2] at HO;have HL2:=Q0.mk hl2;have HE2:=Q0.mk ho2;clear ho2 hl2
          gi_wp2
          gi_loopg [95] x.length (fun d v95 wr => ∃ (i:Nat),v95 = .int .i64 (i:Int)∧Q0 (i+d=x.length)∧Q0 (ShO w A0 c0 l0.length A1 c1 l1.length lb (lb+1) (lb+2) (lb+3) Ax x W wr (Uv o2 x i)))
          case atStart=>exact ⟨0,rfl,⟨by omega⟩,⟨by rw [qiY];exact HO.out⟩⟩
          case round =>
           obtain ⟨j,rfl,HJ,HQ⟩:=hrel
           by_cases hj:j<x.length
           ·
            obtain ⟨d,rfl⟩:∃ d,gk=d+1:=⟨gk-1,by have:=HJ.out;omega⟩;obtain ⟨ad,ea,hx0⟩:=Kd.at_int HQ.out.cx (j:Int) (by omega) (by omega);subst ea;rw [Int.toNat_natCast] at hx0;obtain ⟨v2,g1,g2,g3⟩:=HQ.out.ex;obtain ⟨oj,hoj⟩:∃ oj,Uv o2 x j=oj:=⟨_,rfl⟩
            have hjo:oj.length=x.length:=by rw [← hoj];exact qeG HL2.out (by omega)
            rw [hoj] at g2 g3;obtain ⟨go,co,rfl,_,_,_⟩:=Kd.R_form g2 (by omega);have hob:wr.cell? ⟨lb+2,0,none⟩=some (.slice (some ⟨go,0,none⟩) oj.length co):=(Qb g1 0).trans rfl
            have hjl:j<oj.length:=by omega
            obtain ⟨c,hcl,hM,hcc,hcf⟩:=Kd.R_elem g2 z25 (j:Int) (by omega) (by omega);obtain ⟨p,hp⟩:∃ p,oj.getD j z25=p:=⟨_,rfl⟩;rw [Int.toNat_natCast] at hM hcc hcf;rw [hp] at hM;obtain rfl:=qk1 hM;have he0:wr.cell? ⟨go,j*2,none⟩=some (.int .i64 p.f0):=hcc 0 _ rfl;have he1:wr.cell? ⟨go,j*2+1,none⟩=some (.int .i64 p.f1):=hcc 1 _ rfl;have HCC:=Q0.mk hcc;have HG1:=Q0.mk g1;have HG2:=Q0.mk g2;have HP:=Q0.mk hp;have HOJ:=Q0.mk hoj;have HJO:=Q0.mk hjo;clear hcc g1 g2 g3 hp hoj hjo hcl hM hcf;have qcp:=Try.underlying25
            gi_upto_region 27 with (fail)
            refine qaa 18 hmix ?hnoC (by kernel_rfl) (by kernel_rfl) ?_
            case hnoC=>rintro ⟨a,w,h⟩;exact h
            simp only [List.take_succ_cons,List.take_zero,List.drop_succ_cons,List.drop_zero]
            repeat still_step
            refine wpStill_nil ?_;change wpList _ _ _ _ _ (World.drew _);refine Kd.R_store k25 (w0:=wr.drew) (lb+3) rfl rfl 25 (.tmp 117) (.tmp 116) rfl 25 (o':=j*2) (j:Int) 0 oj ⟨if rd x (j:Int)<p.f0 then rd x (j:Int) else p.f0,if p.f1<rd x (j:Int) then rd x (j:Int) else p.f1⟩ (.agg #[.int .i64 (if rd x (j:Int)<p.f0 then rd x (j:Int) else p.f0),.int .i64 (if p.f1<rd x (j:Int) then rd x (j:Int) else p.f1)]) [.int .i64 (if rd x (j:Int)<p.f0 then rd x (j:Int) else p.f0),.int .i64 (if p.f1<rd x (j:Int) then rd x (j:Int) else p.f1)] [.int .i64 p.f0,.int .i64 p.f1] (fun _=>True) (fun _=>False) rfl (by rw [Int.toNat_natCast];rfl) rfl rfl (by rw [qoJ.1];rfl) (by simp [Value.oneCell']) (Kd.R_drew HG2.out) (by omega) (by omega) rfl (by rw [Int.toNat_natCast];exact HCC.out) (Nat.le_refl 2) (Uh _ _ _ ⟨if rd x (j:Int)<p.f0 then rd x (j:Int) else p.f0,if p.f1<rd x (j:Int) then rd x (j:Int) else p.f1⟩) (fun _ hk=>hk.elim) (Below.refl _ _) ?_;intro w1 hr1 hb1 qBW
            have hset:oj.set (j:Int).toNat ⟨if rd x (j:Int)<p.f0 then rd x (j:Int) else p.f0,if p.f1<rd x (j:Int) then rd x (j:Int) else p.f1⟩=Uv o2 x (j+1):=by
             rw [Int.toNat_natCast,← HOJ.out]
             exact qiX HL2.out hj (by rw [HOJ.out];exact HP.out)
            rw [hset] at hr1;have HSN:=Q0.mk (HQ.out.put qqo HG1.out HG2.out (WQ qBW) hr1 (by intro e;have:=qeG (j:=j+1) HL2.out (by omega);rw [e] at this;simp at this;omega) HROW.out);clear hset
            go_wp2
            all_goals
             gi_wp2
            all_goals
             gi_roundg d
             case measure=>omega
             case rel=>exact ⟨j+1,by simp,⟨by have:=HJ.out;omega⟩,HSN⟩
           ·
            have hjx:j=x.length:=by have:=HJ.out;omega
            subst hjx
            gi_wp2
            have h5:=HQ.out;rw [qlq HL2.out] at h5;obtain ⟨v2,g1,g2,g3⟩:=h5.ex;refine ⟨h5.kf,h5.kr,⟨⟨v2,_,?_,g1,g2,g3⟩,h5.bx,h5.lo,h5.hi,h5.sz⟩⟩;rw [HST.out,← HE2.out];rfl
     case done =>
      intro D W hD hI hK;obtain ⟨v,out,h1,h2,h3,h4⟩:=hI.ex;have hco:W.cell? ⟨lb+2,0,none⟩=some v:=(Qb h2 0).trans rfl;have hF2:=HF.out;rw [h1] at hF2
      have hDw:w.heap.size≤D:=by omega
      have HBW:=Q0.mk hI.bx.below;have HKD:=Q0.mk hK;have HR3:=Q0.mk h3
      have heq:∀ (a:Option Addr) (n c:Nat),(binOp .eql 32 (.slice a n c) (.slice none 0 0)).run Try.prog W = .ok (.bool a.isNone) W:=fun a n c=>Lib.run_eql_slice_nil W 32 25 a n c 0 0 Try.underlying32
      clear hI h2 h1 h3 HF hK
      by_cases ho:out=[]
      ·
       obtain rfl:=h4.2 ho;subst ho
       injection hF2 with hF2
       replace hF2:(([],4):List S25 × Int)=(r1,r2):=hF2
       injection hF2 with e1 e2
       subst e1 e2;clear h4 HR3
       gi_wp2
       simp only [Exit.noGoto];refine ⟨by simp,.inl ⟨_,_,rfl,run_takeDeferred HKD.out,?_⟩⟩;refine ⟨_,results_tmp2 rfl _ _ _,?_⟩
       exact ⟨_,rfl,Kd.V_nil _ _ _ _ _,HBW.out.grown (grownBy_putObj' _ _ _) HBW.out.size (fun r e=>by cases e;omega)⟩
      ·
       injection hF2 with hF2
       replace hF2:(out,(0:Int))=(r1,r2):=by rw [← hF2];simp [ho]
       injection hF2 with e1 e2
       subst e1 e2;have hpos:0<out.length:=List.length_pos_iff.2 ho;obtain ⟨go,co,eo,gb,gl,cl,HG⟩:=Kd.R_form HR3.out hpos;subst eo;have hcc:=(Kd.R_reads' HR3.out).2.1;have hcut:=WE (P:=Try.prog) 32 25 Try.underlying32 rfl (some ⟨go,0,none⟩) out.length co hcc;have HGC:=Q0.mk HG;clear HG h4 ho
       gi_wp2
       simp only [Exit.noGoto];refine ⟨by simp,.inl ⟨_,_,rfl,run_takeDeferred HKD.out,?_⟩⟩;refine ⟨_,results_tmp2 rfl _ _ _,?_⟩;have hgp:=grownBy_putObj' W D (.deferred none);have hR4:Kd.R k25 25 W w.heap.size (fun k_=>w.heap.size≤k_) (.slice (some ⟨go,0,none⟩) out.length co) out:=Kd.R_mono (Kd.R_bound (Kd.R_lower HR3.out (by omega))) (fun _ hk=>hk.2.1)
       have hne:go≠D:=fun e=>by
        have h5:=HGC.out;rw [e,HKD.out] at h5;cases h5
       refine ⟨_,rfl,qlP (Kd.R_mono (Kd.R_move (Kd.R_types2 hR4 HKD.out) (fun k hk=>World.putObj_heap_other hk.2)) (fun _ hk=>hk.1)) _ rfl,HBW.out.grown hgp HBW.out.size (fun r e=>by cases e;omega)⟩
end Go.Proofs.Ytmhomdohhihlcaa.P
namespace Go.Proofs.Ytmhomdohhihlcaa.P
open Go.RowKit Go.Proofs.YtmhomdohhihlcaaW.PrintWords Go.Proofs.YtmhomdohhihlcaaW.PrintLast Go.Proofs.YtmhomdohhihlcaaW.PrintMore
section
attribute [local go_sem] Yv Yx YK YL Yn Yo Yw Yy
mutual
def Y5.l0:Nat→List (S68)→Int→Int→Bool→List (S68)→Int→Int→Option (Int × Int × Int)
 | 0,_,_,_,_,_,_,_=>none
 | k+1,x0,x1,x2,x8,x17,x18,x19=>if x19<x18 then (if 0≤x19 then (if x19<(x17.length:Int) then (if x8=true then ((Qv.f ((Yr x17 x19).f0) 0 10000).bind fun t105=>(if t105=true then ((Jo.f ((Yr x17 x19).f1.f0) ((Yr x17 x19).f1.f1) 20).bind fun qdZ=>(Y5.l0 k x0 x1 x2 qdZ x17 x18 (wrap64 (x19+1)))) else (Y5.l0 k x0 x1 x2 false x17 x18 (wrap64 (x19+1))))) else (Y5.l0 k x0 x1 x2 false x17 x18 (wrap64 (x19+1)))) else (none)) else (none)) else (if x8=true then ((Qv.f x1 0 20).bind fun t107=>(if t107=true then ((Qv.f x2 x1 20).bind fun qm4=>(Y5.j1 k x0 x1 x2 (!qm4))) else (Y5.j1 k x0 x1 x2 true))) else (some (0,0,90)))
def Y5.j1:Nat→List (S68)→Int→Int→Bool→Option (Int × Int × Int)
 | 0,_,_,_,_=>none
 | k+1,x0,x1,x2,x46=>if x46=true then (some (0,0,7)) else (Y5.l1 k x1 x2 x0 (x0.length:Int) 0 0 0)
def Y5.l1:Nat→Int→Int→List (S68)→Int→Int→Int→Int→Option (Int × Int × Int)
 | 0,_,_,_,_,_,_,_=>none
 | k+1,x1,x2,x48,x49,x50,OD,OE=>if x50<x49 then (if 0≤x50 then (if x50<(x48.length:Int) then (if x1≤((Yr x48 x50).f1.f0) then (Y5.j3 k x1 x2 x48 x49 x50 (decide (((Yr x48 x50).f1.f1)≤x2)) OD OE ((Yr x48 x50).f0) ((Yr x48 x50).f1.f0) ((Yr x48 x50).f1.f1)) else (Y5.j3 k x1 x2 x48 x49 x50 false OD OE ((Yr x48 x50).f0) ((Yr x48 x50).f1.f0) ((Yr x48 x50).f1.f1))) else (none)) else (none)) else (some (OD,OE,0))
def Y5.j3:Nat→Int→Int→List (S68)→Int→Int→Bool→Int→Int→Int→Int→Int→Option (Int × Int × Int)
 | 0,_,_,_,_,_,_,_,_,_,_,_=>none
 | k+1,x1,x2,x48,x49,x50,x65,OD,OE,qbW,qkp,qkq=>if x65=true then (if x1≤qkq then (if qkp≤x2 then (Y5.l1 k x1 x2 x48 x49 (wrap64 (x50+1)) (wrap64 (OD+qbW)) (wrap64 (OE+qbW))) else (Y5.l1 k x1 x2 x48 x49 (wrap64 (x50+1)) (wrap64 (OD+qbW)) OE)) else (Y5.l1 k x1 x2 x48 x49 (wrap64 (x50+1)) (wrap64 (OD+qbW)) OE)) else (if x1≤qkq then (if qkp≤x2 then (Y5.l1 k x1 x2 x48 x49 (wrap64 (x50+1)) OD (wrap64 (OE+qbW))) else (Y5.l1 k x1 x2 x48 x49 (wrap64 (x50+1)) OD OE)) else (Y5.l1 k x1 x2 x48 x49 (wrap64 (x50+1)) OD OE))
end
def Y5.f (k:Nat) (l0:List (S68)) (a1:Int) (a2:Int):Option (Int × Int × Int):=Y5.l0 k l0 a1 a2 (decide ((l0.length:Int)≤20)) l0 (l0.length:Int) 0
set_option maxHeartbeats 8000000 in
set_option maxRecDepth 100000 in
theorem Y5.calls (k:Nat) (A0:Option Addr) (c0:Nat) (l0:List (S68)) (a1:Int) (a2:Int) (r1:Int) (r2:Int) (r3:Int) (w:World) (hr0:Kd.C k68 w A0 l0.length l0) (hc0:l0.length≤c0) (h:Y5.f k l0 a1 a2=some (r1,r2,r3)) :
  Calls Try.prog 19 #[.slice A0 l0.length c0,.int .i64 a1,.int .i64 a2] w fun e w'=>e = .returned (.tuple #[.agg #[.int .i64 r1,.int .i64 r2],.int .i64 r3])∧Below w.heap.size w w':=by
 have qcp:=Try.underlying25
 have qCk:=Try.underlying68
 have HR0:=Q0.mk hr0
 have HC0:=Q0.mk hc0
 clear hr0 hc0
 have HB:=Q0.mk (Below.refl w.heap.size w)
 have H:(Y5.l0 k l0 a1 a2 (decide ((l0.length:Int)≤20)) l0 (l0.length:Int) 0)=some (r1,r2,r3):=h
 clear h
 have H':=Q0.mk H
 clear H
 go_enter Try.func19,Try.ntmps19
 go_wp2_with (first|((with_reducible refine Ya (N:=6) rfl ?_);refine YD ?hg (N:=6) ?hd (cs:=#[.int .i64 0,.int .i64 0]) (t:=25) ?hr ?_;(case hd=>rfl);(case hg=>rfl);(case hr=>first|(go_simp;done)|(go_simp;rfl));intro Ji hg w4 hbox hb;have n0_:=Q0.mk (Qx (by repeat (first|(with_reducible first|exact HB.out|apply Q4|apply Q1|apply Qa)|exact HB.out)) hb);have n1_:=Q0.mk (hbox);have n2_:=Q0.mk ((by rw [hg];exact (Qq (by repeat (first|(with_reducible first|exact HB.out|apply Q4|apply Q1|apply Qa)|exact HB.out))):w.heap.size≤Ji));have n3_:=n2_;clear HB;have HB:=n0_;have Zm:=n1_;have qCV:=n2_;have JX:=n3_;clear n0_ n1_ n2_ n3_ hb hbox hg))
 go_loopg [8,19] k (fun kq v8 v19 w' => ∃ (Wr:Bool) (ZS:Int),v8 = .bool Wr∧v19 = .int .i64 ZS∧Q0 (Y5.l0 kq l0 a1 a2 Wr l0 (l0.length:Int) ZS=some (r1,r2,r3))∧Q0 (kq≤k)∧Q0 (w'.heap[Ji]? = some (.cells #[.int .i64 0,.int .i64 0] 25 (0,0)))∧Q0 (Below w.heap.size w w'))
 case atStart=>exact ⟨(decide ((l0.length:Int)≤20)),(0),(by first|rfl|(simp;done)|(simp [*];done)),(by first|rfl|(simp;done)|(simp [*];done)),H',⟨Nat.le_refl _⟩,⟨by (with_reducible repeat (first|refine Q3 ?_ _|refine Q6 ?_|refine Q2 ?_ _));exact Zm.out⟩,⟨by repeat (first|(with_reducible first|exact HB.out|apply Q4|apply Q1|apply Qa|refine Q5 ?_ JX.out)|exact HB.out)⟩⟩
 clear H'
 try clear c1
 try clear p2
 obtain ⟨Wr,ZS,rfl,rfl,HA,HK1,Zm,HB⟩:=hrel
 cases gk with
 | zero=>exact absurd HA.out (by simp [Y5.l0])
 | succ k1 =>
  have H:=HA.out
  clear HA
  simp only [Y5.l0] at H
  by_cases c5:ZS<(l0.length:Int)
  ·
   rw [if_pos c5] at H
   have c5b0:decide (ZS<(l0.length:Int))=true:=decide_eq_true c5
   clear c5
   by_cases c6:0≤ZS
   ·
    rw [if_pos c6] at H;have c6b0:decide (0≤ZS)=true:=decide_eq_true c6;clear c6
    by_cases c7:ZS<(l0.length:Int)
    ·
     rw [if_pos c7] at H;have c7b0:decide (ZS<(l0.length:Int))=true:=decide_eq_true c7;clear c7
     by_cases c8:Wr=true
     ·
      subst c8
      have H1:((Qv.f ((Yr l0 ZS).f0) 0 10000).bind fun t105=>(if t105=true then ((Jo.f ((Yr l0 ZS).f1.f0) ((Yr l0 ZS).f1.f1) 20).bind fun qdZ=>(Y5.l0 k1 l0 a1 a2 qdZ l0 (l0.length:Int) (wrap64 (ZS+1)))) else (Y5.l0 k1 l0 a1 a2 false l0 (l0.length:Int) (wrap64 (ZS+1)))))=some (r1,r2,r3):=by rw [if_pos rfl] at H;exact H
      clear H;have H:=H1;clear H1;replace H:=Option.bind_eq_some_iff.mp H;obtain ⟨t105,A90,H⟩:=H;replace H:(if t105=true then ((Jo.f ((Yr l0 ZS).f1.f0) ((Yr l0 ZS).f1.f1) 20).bind fun qdZ=>(Y5.l0 k1 l0 a1 a2 qdZ l0 (l0.length:Int) (wrap64 (ZS+1)))) else (Y5.l0 k1 l0 a1 a2 false l0 (l0.length:Int) (wrap64 (ZS+1))))=some (r1,r2,r3):=H;have A9:=Q0.mk A90;clear A90
      by_cases c10:t105=true
      ·
       subst c10
       have H1:((Jo.f ((Yr l0 ZS).f1.f0) ((Yr l0 ZS).f1.f1) 20).bind fun qdZ=>(Y5.l0 k1 l0 a1 a2 qdZ l0 (l0.length:Int) (wrap64 (ZS+1))))=some (r1,r2,r3):=by rw [if_pos rfl] at H;exact H
       clear H;have H:=H1;clear H1;replace H:=Option.bind_eq_some_iff.mp H;obtain ⟨qdZ,qly,H⟩:=H;replace H:(Y5.l0 k1 l0 a1 a2 qdZ l0 (l0.length:Int) (wrap64 (ZS+1)))=some (r1,r2,r3):=H;have A11:=Q0.mk qly;clear qly;have H':=Q0.mk H;clear H;have qbO:0≤(ZS:Int):=of_decide_eq_true (by first|(with_reducible assumption)|assumption);have qbQ:ZS<(l0.length:Int):=of_decide_eq_true (by first|(with_reducible assumption)|assumption);obtain ⟨qpY,ql6,K0,K1,K2⟩:=qeT HR0.out ZS qbO qbQ;cases ql6;replace K0:=(HB.out.cell (World.block_lt_of_cell? w _ K0)).trans K0;replace K1:=(HB.out.cell (World.block_lt_of_cell? w _ K1)).trans K1;replace K2:=(HB.out.cell (World.block_lt_of_cell? w _ K2)).trans K2;replace qbO:=eq_true qbO;replace qbQ:=eq_true qbQ
       go_wp2_with (first|((with_reducible refine Ya (N:=10) rfl ?_);refine YD ?hg (N:=10) ?hd (cs:=#[.int .i64 0,.int .i64 0,.int .i64 0]) (t:=68) ?hr ?_;(case hd=>rfl);(case hg=>rfl);(case hr=>first|(go_simp;done)|(go_simp;rfl));intro GZ hg w12 hbox hb;have n0_:=Q0.mk (Qp (g:=Ji) (by (with_reducible repeat (first|refine Q3 ?_ _|refine Q6 ?_|refine Q2 ?_ _));exact Zm.out) hb);have n1_:=Q0.mk (Qx (by repeat (first|(with_reducible first|exact HB.out|apply Q4|apply Q1|apply Qa|refine Q5 ?_ JX.out)|exact HB.out)) hb);have n2_:=Q0.mk (hbox);have n3_:=Q0.mk ((by rw [hg];exact (Qq (by repeat (first|(with_reducible first|exact HB.out|apply Q4|apply Q1|apply Qa|refine Q5 ?_ JX.out)|exact HB.out))):w.heap.size≤GZ));have n4_:=n3_;have n5_:=Q0.mk ((by rw [hg];exact Nat.ne_of_lt (QY (g:=Ji) (by (with_reducible repeat (first|refine Q3 ?_ _|refine Q6 ?_|refine Q2 ?_ _));exact Zm.out)):Ji≠GZ));have n6_:=Q0.mk (n5_.out.symm);clear Zm HB;have Zm:=n0_;have HB:=n1_;have Ke:=n2_;have qpo:=n3_;have qet:=n4_;have JZ:=n5_;have Wx:=n6_;clear n0_ n1_ n2_ n3_ n4_ n5_ n6_ hb hbox hg;have qD6:=Wx.out;have qEH:=JZ.out;have UH:w12.cell? ⟨GZ,0,none⟩=some (.int .i64 0):=(Qb Ke.out 0).trans rfl;have UI:w12.cell? ⟨GZ,1,none⟩=some (.int .i64 0):=(Qb Ke.out 1).trans rfl;have UJ:w12.cell? ⟨GZ,2,none⟩=some (.int .i64 0):=(Qb Ke.out 2).trans rfl;have UU:=Qc Ke.out 0;have UV:=Qc Ke.out 1;have UW:=Qc Ke.out 2)|(go_at_call 65;(with_reducible refine (Qv.calls ((Yr l0 ZS).f0) 0 10000 true _ A9.out).mono ?_);rintro e w' ⟨rfl,⟨nd,rfl⟩⟩)|(go_at_call 66;(with_reducible refine (Jo.calls ((Yr l0 ZS).f1.f0) ((Yr l0 ZS).f1.f1) 20 qdZ _ A11.out).mono ?_);rintro e w15 ⟨rfl,hb⟩;have n0_:=Q0.mk (Qp (g:=Ji) (o:=.cells #[.int .i64 0,.int .i64 0] 25 (0,0)) (by (with_reducible repeat (first|refine Q3 ?_ _|refine Q6 ?_|refine Q2 ?_ _));refine Qu ?_ JZ.out _;(with_reducible repeat (first|refine Q3 ?_ _|refine Q6 ?_|refine Q2 ?_ _));refine Qu ?_ JZ.out _;(with_reducible repeat (first|refine Q3 ?_ _|refine Q6 ?_|refine Q2 ?_ _));refine Qu ?_ JZ.out _;(with_reducible repeat (first|refine Q3 ?_ _|refine Q6 ?_|refine Q2 ?_ _));exact Zm.out) hb);have n1_:=Q0.mk (Qp (g:=GZ) (o:=.cells #[.int .i64 ((Yr l0 ZS).f0),.int .i64 ((Yr l0 ZS).f1.f0),.int .i64 ((Yr l0 ZS).f1.f1)] 68 (0,0)) (by (with_reducible repeat (first|refine Q3 ?_ _|refine Q6 ?_|refine Q2 ?_ _));refine QJ (cs:=#[.int .i64 ((Yr l0 ZS).f0),.int .i64 ((Yr l0 ZS).f1.f0),.int .i64 0]) ?_ 2 _ rfl;(with_reducible repeat (first|refine Q3 ?_ _|refine Q6 ?_|refine Q2 ?_ _));refine QJ (cs:=#[.int .i64 ((Yr l0 ZS).f0),.int .i64 0,.int .i64 0]) ?_ 1 _ rfl;(with_reducible repeat (first|refine Q3 ?_ _|refine Q6 ?_|refine Q2 ?_ _));refine QJ (cs:=#[.int .i64 0,.int .i64 0,.int .i64 0]) ?_ 0 _ rfl;(with_reducible repeat (first|refine Q3 ?_ _|refine Q6 ?_|refine Q2 ?_ _));exact Ke.out) hb);have n2_:=Q0.mk (Qx (by repeat (first|(with_reducible first|exact HB.out|apply Q4|apply Q1|apply Qa|refine Q5 ?_ JX.out|refine Q5 ?_ qet.out)|exact HB.out)) hb);clear Zm Ke HB;have Zm:=n0_;have Ke:=n1_;have HB:=n2_;clear n0_ n1_ n2_;(try clear hb);(try clear hb2);(try clear hk);(try clear hi)))
       go_roundg k1
       case measure=>have:=HK1.out;omega
       case rel=>exact ⟨(qdZ),(wrap64 (ZS+1)),(by first|rfl|(simp;done)|(simp [*];done)),(by first|rfl|(simp;done)|(simp [*];done)),H',⟨by have:=HK1.out;omega⟩,⟨by (with_reducible repeat (first|refine Q3 ?_ _|refine Q6 ?_|refine Q2 ?_ _));exact Zm.out⟩,⟨by repeat (first|(with_reducible first|exact HB.out|apply Q4|apply Q1|apply Qa|refine Q5 ?_ JX.out|refine Q5 ?_ qet.out)|exact HB.out)⟩⟩
      replace c10:=Bool.eq_false_iff.mpr c10;subst c10
      have H1:(Y5.l0 k1 l0 a1 a2 false l0 (l0.length:Int) (wrap64 (ZS+1)))=some (r1,r2,r3):=by rw [if_neg (show ¬ (false=true) by decide)] at H;exact H
      clear H;have H:=H1;clear H1;have H':=Q0.mk H;clear H;have qbO:0≤(ZS:Int):=of_decide_eq_true (by first|(with_reducible assumption)|assumption);have qbQ:ZS<(l0.length:Int):=of_decide_eq_true (by first|(with_reducible assumption)|assumption);obtain ⟨qpY,ql6,K0,K1,K2⟩:=qeT HR0.out ZS qbO qbQ;cases ql6;replace K0:=(HB.out.cell (World.block_lt_of_cell? w _ K0)).trans K0;replace K1:=(HB.out.cell (World.block_lt_of_cell? w _ K1)).trans K1;replace K2:=(HB.out.cell (World.block_lt_of_cell? w _ K2)).trans K2;replace qbO:=eq_true qbO;replace qbQ:=eq_true qbQ
      go_wp2_with (first|((with_reducible refine Ya (N:=10) rfl ?_);refine YD ?hg (N:=10) ?hd (cs:=#[.int .i64 0,.int .i64 0,.int .i64 0]) (t:=68) ?hr ?_;(case hd=>rfl);(case hg=>rfl);(case hr=>first|(go_simp;done)|(go_simp;rfl));intro GZ hg w16 hbox hb;have n0_:=Q0.mk (Qp (g:=Ji) (by (with_reducible repeat (first|refine Q3 ?_ _|refine Q6 ?_|refine Q2 ?_ _));exact Zm.out) hb);have n1_:=Q0.mk (Qx (by repeat (first|(with_reducible first|exact HB.out|apply Q4|apply Q1|apply Qa|refine Q5 ?_ JX.out)|exact HB.out)) hb);have n2_:=Q0.mk (hbox);have n3_:=Q0.mk ((by rw [hg];exact (Qq (by repeat (first|(with_reducible first|exact HB.out|apply Q4|apply Q1|apply Qa|refine Q5 ?_ JX.out)|exact HB.out))):w.heap.size≤GZ));have n4_:=n3_;have n5_:=Q0.mk ((by rw [hg];exact Nat.ne_of_lt (QY (g:=Ji) (by (with_reducible repeat (first|refine Q3 ?_ _|refine Q6 ?_|refine Q2 ?_ _));exact Zm.out)):Ji≠GZ));have n6_:=Q0.mk (n5_.out.symm);clear Zm HB;have Zm:=n0_;have HB:=n1_;have Ke:=n2_;have qpo:=n3_;have qet:=n4_;have JZ:=n5_;have Wx:=n6_;clear n0_ n1_ n2_ n3_ n4_ n5_ n6_ hb hbox hg;have quu:=Wx.out;have quL:=JZ.out;have UN:w16.cell? ⟨GZ,0,none⟩=some (.int .i64 0):=(Qb Ke.out 0).trans rfl;have UO:w16.cell? ⟨GZ,1,none⟩=some (.int .i64 0):=(Qb Ke.out 1).trans rfl;have UP:w16.cell? ⟨GZ,2,none⟩=some (.int .i64 0):=(Qb Ke.out 2).trans rfl;have W4:=Qc Ke.out 0;have W5:=Qc Ke.out 1;have W6:=Qc Ke.out 2)|(go_at_call 65;(with_reducible refine (Qv.calls ((Yr l0 ZS).f0) 0 10000 false _ A9.out).mono ?_);rintro e w' ⟨rfl,⟨nd,rfl⟩⟩))
      go_roundg k1
      case measure=>have:=HK1.out;omega
      case rel=>exact ⟨(false),(wrap64 (ZS+1)),(by first|rfl|(simp;done)|(simp [*];done)),(by first|rfl|(simp;done)|(simp [*];done)),H',⟨by have:=HK1.out;omega⟩,⟨by (with_reducible repeat (first|refine Q3 ?_ _|refine Q6 ?_|refine Q2 ?_ _));refine Qu ?_ JZ.out _;(with_reducible repeat (first|refine Q3 ?_ _|refine Q6 ?_|refine Q2 ?_ _));refine Qu ?_ JZ.out _;(with_reducible repeat (first|refine Q3 ?_ _|refine Q6 ?_|refine Q2 ?_ _));refine Qu ?_ JZ.out _;(with_reducible repeat (first|refine Q3 ?_ _|refine Q6 ?_|refine Q2 ?_ _));exact Zm.out⟩,⟨by repeat (first|(with_reducible first|exact HB.out|apply Q4|apply Q1|apply Qa|refine Q5 ?_ JX.out|refine Q5 ?_ qet.out)|exact HB.out)⟩⟩
     replace c8:=Bool.eq_false_iff.mpr c8;subst c8
     have H1:(Y5.l0 k1 l0 a1 a2 false l0 (l0.length:Int) (wrap64 (ZS+1)))=some (r1,r2,r3):=by rw [if_neg (show ¬ (false=true) by decide)] at H;exact H
     clear H;have H:=H1;clear H1;have H':=Q0.mk H;clear H;have qbO:0≤(ZS:Int):=of_decide_eq_true (by first|(with_reducible assumption)|assumption);have qbQ:ZS<(l0.length:Int):=of_decide_eq_true (by first|(with_reducible assumption)|assumption);obtain ⟨qpY,ql6,K0,K1,K2⟩:=qeT HR0.out ZS qbO qbQ;cases ql6;replace K0:=(HB.out.cell (World.block_lt_of_cell? w _ K0)).trans K0;replace K1:=(HB.out.cell (World.block_lt_of_cell? w _ K1)).trans K1;replace K2:=(HB.out.cell (World.block_lt_of_cell? w _ K2)).trans K2;replace qbO:=eq_true qbO;replace qbQ:=eq_true qbQ
     go_wp2_with (first|((with_reducible refine Ya (N:=10) rfl ?_);refine YD ?hg (N:=10) ?hd (cs:=#[.int .i64 0,.int .i64 0,.int .i64 0]) (t:=68) ?hr ?_;(case hd=>rfl);(case hg=>rfl);(case hr=>first|(go_simp;done)|(go_simp;rfl));intro GZ hg w19 hbox hb;have n0_:=Q0.mk (Qp (g:=Ji) (by (with_reducible repeat (first|refine Q3 ?_ _|refine Q6 ?_|refine Q2 ?_ _));exact Zm.out) hb);have n1_:=Q0.mk (Qx (by repeat (first|(with_reducible first|exact HB.out|apply Q4|apply Q1|apply Qa|refine Q5 ?_ JX.out)|exact HB.out)) hb);have n2_:=Q0.mk (hbox);have n3_:=Q0.mk ((by rw [hg];exact (Qq (by repeat (first|(with_reducible first|exact HB.out|apply Q4|apply Q1|apply Qa|refine Q5 ?_ JX.out)|exact HB.out))):w.heap.size≤GZ));have n4_:=n3_;have n5_:=Q0.mk ((by rw [hg];exact Nat.ne_of_lt (QY (g:=Ji) (by (with_reducible repeat (first|refine Q3 ?_ _|refine Q6 ?_|refine Q2 ?_ _));exact Zm.out)):Ji≠GZ));have n6_:=Q0.mk (n5_.out.symm);clear Zm HB;have Zm:=n0_;have HB:=n1_;have Ke:=n2_;have qpo:=n3_;have qet:=n4_;have JZ:=n5_;have Wx:=n6_;clear n0_ n1_ n2_ n3_ n4_ n5_ n6_ hb hbox hg;have quv:=Wx.out;have quM:=JZ.out;have U1:w19.cell? ⟨GZ,0,none⟩=some (.int .i64 0):=(Qb Ke.out 0).trans rfl;have U2:w19.cell? ⟨GZ,1,none⟩=some (.int .i64 0):=(Qb Ke.out 1).trans rfl;have U3:w19.cell? ⟨GZ,2,none⟩=some (.int .i64 0):=(Qb Ke.out 2).trans rfl;have Ub:=Qc Ke.out 0;have Uc:=Qc Ke.out 1;have Ud:=Qc Ke.out 2))
     go_roundg k1
     case measure=>have:=HK1.out;omega
     case rel=>exact ⟨(false),(wrap64 (ZS+1)),(by first|rfl|(simp;done)|(simp [*];done)),(by first|rfl|(simp;done)|(simp [*];done)),H',⟨by have:=HK1.out;omega⟩,⟨by (with_reducible repeat (first|refine Q3 ?_ _|refine Q6 ?_|refine Q2 ?_ _));refine Qu ?_ JZ.out _;(with_reducible repeat (first|refine Q3 ?_ _|refine Q6 ?_|refine Q2 ?_ _));refine Qu ?_ JZ.out _;(with_reducible repeat (first|refine Q3 ?_ _|refine Q6 ?_|refine Q2 ?_ _));refine Qu ?_ JZ.out _;(with_reducible repeat (first|refine Q3 ?_ _|refine Q6 ?_|refine Q2 ?_ _));exact Zm.out⟩,⟨by repeat (first|(with_reducible first|exact HB.out|apply Q4|apply Q1|apply Qa|refine Q5 ?_ JX.out|refine Q5 ?_ qet.out)|exact HB.out)⟩⟩
    rw [if_neg c7] at H
    exact absurd H (by simp)
   rw [if_neg c6] at H
   exact absurd H (by simp)
  rw [if_neg c5] at H
  have c5b0:decide (ZS<(l0.length:Int))=false:=decide_eq_false c5
  clear c5
  by_cases c22:Wr=true
  ·
   subst c22
   have H1:((Qv.f a1 0 20).bind fun t107=>(if t107=true then ((Qv.f a2 a1 20).bind fun qm4=>(Y5.j1 k1 l0 a1 a2 (!qm4))) else (Y5.j1 k1 l0 a1 a2 true)))=some (r1,r2,r3):=by rw [if_pos rfl] at H;exact H
   clear H
   have H:=H1
   clear H1
   have qhL:=Q0.mk H
   clear H
   go_upto_region 9 with (fail)
   go_cut [46] (fun v46 wc => ∃ (kq:Nat) (qf1:Bool),v46 = .bool qf1∧Q0 (Y5.j1 kq l0 a1 a2 qf1=some (r1,r2,r3))∧Q0 (kq≤k1)∧Q0 (wc.heap[Ji]? = some (.cells #[.int .i64 0,.int .i64 0] 25 (0,0)))∧Q0 (Below w.heap.size w wc))
   case first =>
    have H:=qhL.out;clear qhL;replace H:=Option.bind_eq_some_iff.mp H;obtain ⟨t107,qf8,H⟩:=H;replace H:(if t107=true then ((Qv.f a2 a1 20).bind fun qm4=>(Y5.j1 k1 l0 a1 a2 (!qm4))) else (Y5.j1 k1 l0 a1 a2 true))=some (r1,r2,r3):=H;have A24:=Q0.mk qf8;clear qf8
    by_cases c25:t107=true
    ·
     subst c25
     have H1:((Qv.f a2 a1 20).bind fun qm4=>(Y5.j1 k1 l0 a1 a2 (!qm4)))=some (r1,r2,r3):=by rw [if_pos rfl] at H;exact H
     clear H;have H:=H1;clear H1;replace H:=Option.bind_eq_some_iff.mp H;obtain ⟨qm4,qrI,H⟩:=H;replace H:(Y5.j1 k1 l0 a1 a2 (!qm4))=some (r1,r2,r3):=H;have A26:=Q0.mk qrI;clear qrI;have H':=Q0.mk H;clear H
     go_wp2_with (first|((with_reducible refine QK (f:=65) rfl ?_);refine YP (some 39) rfl rfl Try.func65 (by kernel_rfl) rfl #[.int .i64 a1,.int .i64 0,.int .i64 20] rfl (by (try simp only [List.map_toArray,List.map_cons,List.map_nil]);first|done|rfl|(simp only [List.length_drop,List.length_take];rfl)) ?_;(with_reducible refine (Qv.calls a1 0 20 true _ A24.out).mono ?_);rintro e w' ⟨rfl,⟨nd,rfl⟩⟩;refine ⟨_,rfl,?_⟩)|(go_at_call 65;(with_reducible refine (Qv.calls a2 a1 20 qm4 _ A26.out).mono ?_);rintro e w' ⟨rfl,⟨nd,rfl⟩⟩))
     go_meet
     case rel=>exact ⟨_,(!qm4),(by first|rfl|(simp;done)|(simp [*];done)),H',⟨by have:=HK1.out;first|omega|exact Nat.le_refl _⟩,⟨by (with_reducible repeat (first|refine Q3 ?_ _|refine Q6 ?_|refine Q2 ?_ _));exact Zm.out⟩,⟨by repeat (first|(with_reducible first|exact HB.out|apply Q4|apply Q1|apply Qa|refine Q5 ?_ JX.out)|exact HB.out)⟩⟩
    replace c25:=Bool.eq_false_iff.mpr c25;subst c25
    have H1:(Y5.j1 k1 l0 a1 a2 true)=some (r1,r2,r3):=by rw [if_neg (show ¬ (false=true) by decide)] at H;exact H
    clear H;have H:=H1;clear H1;have H':=Q0.mk H;clear H
    go_wp2_with (first|((with_reducible refine QK (f:=65) rfl ?_);refine YP (some 39) rfl rfl Try.func65 (by kernel_rfl) rfl #[.int .i64 a1,.int .i64 0,.int .i64 20] rfl (by (try simp only [List.map_toArray,List.map_cons,List.map_nil]);first|done|rfl|(simp only [List.length_drop,List.length_take];rfl)) ?_;(with_reducible refine (Qv.calls a1 0 20 false _ A24.out).mono ?_);rintro e w' ⟨rfl,⟨nd,rfl⟩⟩;refine ⟨_,rfl,?_⟩))
    go_meet
    case rel=>exact ⟨_,(true),(by first|rfl|(simp;done)|(simp [*];done)),H',⟨by have:=HK1.out;first|omega|exact Nat.le_refl _⟩,⟨by (with_reducible repeat (first|refine Q3 ?_ _|refine Q6 ?_|refine Q2 ?_ _));exact Zm.out⟩,⟨by repeat (first|(with_reducible first|exact HB.out|apply Q4|apply Q1|apply Qa|refine Q5 ?_ JX.out)|exact HB.out)⟩⟩
   clear qhL
   try clear c1
   try clear p1
   try clear q1
   try clear hx1
   try clear c2
   try clear p2
   try clear c5
   try clear c5b0
   try clear c6
   try clear c6b0
   try clear p6
   try clear c7
   try clear c7b0
   try clear c8
   try clear c10
   try clear p10
   try clear q10
   try clear qu5
   try clear c13
   try clear c17
   try clear c19
   try clear c20
   try clear c22
   try clear c25
   try clear UH
   try clear UI
   try clear UJ
   try clear UN
   try clear UO
   try clear UP
   try clear U1
   try clear U2
   try clear U3
   try clear UU
   try clear UV
   try clear UW
   try clear W4
   try clear W5
   try clear W6
   try clear Ub
   try clear Uc
   try clear Ud
   try clear K0
   try clear K1
   try clear K2
   try clear qbO
   try clear p2
   try clear qbQ
   obtain ⟨kq,qf1,rfl,HA,Wm,Zm,HB⟩:=hcut
   cases kq with
   | zero=>exact absurd HA.out (by simp [Y5.j1])
   | succ Xg =>
    have H:=HA.out;clear HA;simp only [Y5.j1] at H
    by_cases c27:qf1=true
    ·
     subst c27
     have H1:(some (0,0,7))=some (r1,r2,r3):=by rw [if_pos rfl] at H;exact H
     clear H;have H:=H1;clear H1;simp only [Option.some.injEq,Prod.mk.injEq] at H;obtain ⟨rfl,rfl,rfl⟩:=H;have qe7:wc.cell? ⟨Ji,0,none⟩=some (.int .i64 0):=(Qb Zm.out 0).trans rfl;have qe8:wc.cell? ⟨Ji,1,none⟩=some (.int .i64 0):=(Qb Zm.out 1).trans rfl;have qfl:=Qc Zm.out 0;have qfm:=Qc Zm.out 1
     go_wp2
     refine bodyPost_ret (qaL rfl _ _ Ji 25 #[.int .i64 0,.int .i64 0] (0,0) _ rfl (by (with_reducible repeat (first|refine Q3 ?_ _|refine Q6 ?_|refine Q2 ?_ _));refine QJ (cs:=#[.int .i64 0,.int .i64 0]) ?_ 1 _ rfl;(with_reducible repeat (first|refine Q3 ?_ _|refine Q6 ?_|refine Q2 ?_ _));refine QJ (cs:=#[.int .i64 0,.int .i64 0]) ?_ 0 _ rfl;(with_reducible repeat (first|refine Q3 ?_ _|refine Q6 ?_|refine Q2 ?_ _));exact Zm.out) Try.underlying25 rfl (by kernel_rfl)) rfl ?_
     exact ⟨by first|rfl|(simp [QB,QC]<;>rfl)|(simp [*,QB,QC]<;>rfl),by repeat (first|(with_reducible first|exact HB.out|apply Q4|apply Q1|apply Qa|refine Q5 ?_ JX.out)|exact HB.out)⟩
    replace c27:=Bool.eq_false_iff.mpr c27;subst c27
    have H1:(Y5.l1 Xg a1 a2 l0 (l0.length:Int) 0 0 0)=some (r1,r2,r3):=by rw [if_neg (show ¬ (false=true) by decide)] at H;exact H
    clear H;have H:=H1;clear H1;have H':=Q0.mk H;clear H
    go_wp2_with (first|((with_reducible refine Ya (N:=11) rfl ?_);refine YD ?hg (N:=11) ?hd (cs:=#[.int .i64 0,.int .i64 0]) (t:=25) ?hr ?_;(case hd=>rfl);(case hg=>rfl);(case hr=>first|(go_simp;done)|(go_simp;rfl));intro Kx hg w29 hbox hb;have n0_:=Q0.mk (Qp (g:=Ji) (by (with_reducible repeat (first|refine Q3 ?_ _|refine Q6 ?_|refine Q2 ?_ _));exact Zm.out) hb);have n1_:=Q0.mk (Qx (by repeat (first|(with_reducible first|exact HB.out|apply Q4|apply Q1|apply Qa|refine Q5 ?_ JX.out)|exact HB.out)) hb);have n2_:=Q0.mk (hbox);have n3_:=Q0.mk ((by rw [hg];exact (Qq (by repeat (first|(with_reducible first|exact HB.out|apply Q4|apply Q1|apply Qa|refine Q5 ?_ JX.out)|exact HB.out))):w.heap.size≤Kx));have n4_:=n3_;have n5_:=Q0.mk ((by rw [hg];exact Nat.ne_of_lt (QY (g:=Ji) (by (with_reducible repeat (first|refine Q3 ?_ _|refine Q6 ?_|refine Q2 ?_ _));exact Zm.out)):Ji≠Kx));have n6_:=Q0.mk (n5_.out.symm);clear Zm HB;have Zm:=n0_;have HB:=n1_;have JJ:=n2_;have qCW:=n3_;have Wu:=n4_;have GQ:=n5_;have Wy:=n6_;clear n0_ n1_ n2_ n3_ n4_ n5_ n6_ hb hbox hg))
    go_loopg [50] Xg (fun kq v50 w' => ∃ (YT:Int) (Z5:Int) (Z7:Int),v50 = .int .i64 YT∧Q0 (Y5.l1 kq a1 a2 l0 (l0.length:Int) YT Z5 Z7=some (r1,r2,r3))∧Q0 (kq≤Xg)∧Q0 (w'.heap[Ji]? = some (.cells #[.int .i64 0,.int .i64 0] 25 (0,0)))∧Q0 (w'.heap[Kx]? = some (.cells #[.int .i64 Z5,.int .i64 Z7] 25 (0,0)))∧Q0 (Below w.heap.size w w'))
    case atStart=>exact ⟨(0),(0),(0),(by first|rfl|(simp;done)|(simp [*];done)),H',⟨Nat.le_refl _⟩,⟨by (with_reducible repeat (first|refine Q3 ?_ _|refine Q6 ?_|refine Q2 ?_ _));exact Zm.out⟩,⟨by (with_reducible repeat (first|refine Q3 ?_ _|refine Q6 ?_|refine Q2 ?_ _));exact JJ.out⟩,⟨by repeat (first|(with_reducible first|exact HB.out|apply Q4|apply Q1|apply Qa|refine Q5 ?_ JX.out|refine Q5 ?_ Wu.out)|exact HB.out)⟩⟩
    clear H';(try clear c1);(try clear p1);(try clear q1);(try clear hx1);(try clear c2);(try clear p2);(try clear c5);(try clear c5b0);(try clear c6);(try clear c6b0);(try clear p6);(try clear c7);(try clear c7b0);(try clear c8);(try clear c10);(try clear p10);(try clear q10);(try clear qu5);(try clear c13);(try clear c17);(try clear c19);(try clear c20);(try clear c22);(try clear c25);(try clear c27);(try clear UH);(try clear UI);(try clear UJ);(try clear UN);(try clear UO);(try clear UP);(try clear U1);(try clear U2);(try clear U3);(try clear qe7);(try clear qe8);(try clear UU);(try clear UV);(try clear UW);(try clear W4);(try clear W5);(try clear W6);(try clear Ub);(try clear Uc);(try clear Ud);(try clear qfl);(try clear qfm);(try clear K0);(try clear K1);(try clear K2);(try clear p1);(try clear p10);(try clear qbO);(try clear p2);(try clear p6);(try clear q1);(try clear q10);(try clear qbQ);obtain ⟨YT,Z5,Z7,rfl,HA,HK3,Zm,JJ,HB⟩:=hrel
    cases gk with
    | zero=>exact absurd HA.out (by simp [Y5.l1])
    | succ k3 =>
     have H:=HA.out;clear HA;simp only [Y5.l1] at H
     by_cases c30:YT<(l0.length:Int)
     ·
      rw [if_pos c30] at H;have c30b0:decide (YT<(l0.length:Int))=true:=decide_eq_true c30;clear c30
      by_cases c31:0≤YT
      ·
       rw [if_pos c31] at H;have c31b0:decide (0≤YT)=true:=decide_eq_true c31;clear c31
       by_cases c32:YT<(l0.length:Int)
       ·
        rw [if_pos c32] at H;have c32b0:decide (YT<(l0.length:Int))=true:=decide_eq_true c32;clear c32;have qqC:=Q0.mk H;clear H;have qoR:0≤(YT:Int):=of_decide_eq_true (by first|(with_reducible assumption)|assumption);have qoY:YT<(l0.length:Int):=of_decide_eq_true (by first|(with_reducible assumption)|assumption);obtain ⟨qDd,qBd,qdj,qdk,qdl⟩:=qeT HR0.out YT qoR qoY;cases qBd;replace qdj:=(HB.out.cell (World.block_lt_of_cell? w _ qdj)).trans qdj;replace qdk:=(HB.out.cell (World.block_lt_of_cell? w _ qdk)).trans qdk;replace qdl:=(HB.out.cell (World.block_lt_of_cell? w _ qdl)).trans qdl;replace qoR:=eq_true qoR;replace qoY:=eq_true qoY
        go_upto_region 15 with (first|((with_reducible refine Ya (N:=13) rfl ?_);refine YD ?hg (N:=13) ?hd (cs:=#[.int .i64 0,.int .i64 0,.int .i64 0]) (t:=68) ?hr ?_;(case hd=>rfl);(case hg=>rfl);(case hr=>first|(go_simp;done)|(go_simp;rfl));intro G2 hg w34 hbox hb;have n0_:=Q0.mk (Qp (g:=Ji) (by (with_reducible repeat (first|refine Q3 ?_ _|refine Q6 ?_|refine Q2 ?_ _));exact Zm.out) hb);have n1_:=Q0.mk (Qp (g:=Kx) (by (with_reducible repeat (first|refine Q3 ?_ _|refine Q6 ?_|refine Q2 ?_ _));exact JJ.out) hb);have n2_:=Q0.mk (Qx (by repeat (first|(with_reducible first|exact HB.out|apply Q4|apply Q1|apply Qa|refine Q5 ?_ JX.out|refine Q5 ?_ Wu.out)|exact HB.out)) hb);have n3_:=Q0.mk (hbox);have n4_:=Q0.mk ((by rw [hg];exact (Qq (by repeat (first|(with_reducible first|exact HB.out|apply Q4|apply Q1|apply Qa|refine Q5 ?_ JX.out|refine Q5 ?_ Wu.out)|exact HB.out))):w.heap.size≤G2));have n5_:=n4_;have n6_:=Q0.mk ((by rw [hg];exact Nat.ne_of_lt (QY (g:=Ji) (by (with_reducible repeat (first|refine Q3 ?_ _|refine Q6 ?_|refine Q2 ?_ _));exact Zm.out)):Ji≠G2));have n7_:=Q0.mk (n6_.out.symm);have n8_:=Q0.mk ((by rw [hg];exact Nat.ne_of_lt (QY (g:=Kx) (by (with_reducible repeat (first|refine Q3 ?_ _|refine Q6 ?_|refine Q2 ?_ _));exact JJ.out)):Kx≠G2));have n9_:=Q0.mk (n8_.out.symm);clear Zm JJ HB;have Zm:=n0_;have JJ:=n1_;have HB:=n2_;have Zz:=n3_;have qCX:=n4_;have qca:=n5_;have JG:=n6_;have Ko:=n7_;have JH:=n8_;have Kp:=n9_;clear n0_ n1_ n2_ n3_ n4_ n5_ n6_ n7_ n8_ n9_ hb hbox hg;have quy:=Ko.out;have quP:=JG.out;have quz:=Kp.out;have quQ:=JH.out;have qnN:w34.cell? ⟨G2,0,none⟩=some (.int .i64 0):=(Qb Zz.out 0).trans rfl;have qnO:w34.cell? ⟨G2,1,none⟩=some (.int .i64 0):=(Qb Zz.out 1).trans rfl;have qnP:w34.cell? ⟨G2,2,none⟩=some (.int .i64 0):=(Qb Zz.out 2).trans rfl;have qoh:=Qc Zz.out 0;have qoi:=Qc Zz.out 1;have qoj:=Qc Zz.out 2))
        (try simp only [Qe,Q7,Qd,Q9,Q8])
        go_cut [65] (fun v65 wc => ∃ (kq:Nat) (qf3:Bool),v65 = .bool qf3∧Q0 (Y5.j3 kq a1 a2 l0 (l0.length:Int) YT qf3 Z5 Z7 ((Yr l0 YT).f0) ((Yr l0 YT).f1.f0) ((Yr l0 YT).f1.f1)=some (r1,r2,r3))∧Q0 (kq≤k3)∧Q0 (wc.heap[Ji]? = some (.cells #[.int .i64 0,.int .i64 0] 25 (0,0)))∧Q0 (wc.heap[Kx]? = some (.cells #[.int .i64 Z5,.int .i64 Z7] 25 (0,0)))∧Q0 (wc.heap[G2]? = some (.cells #[.int .i64 ((Yr l0 YT).f0),.int .i64 ((Yr l0 YT).f1.f0),.int .i64 ((Yr l0 YT).f1.f1)] 68 (0,0)))∧Q0 (Below w.heap.size w wc))
        case first =>
         have H:=qqC.out;clear qqC
         by_cases c38:a1≤((Yr l0 YT).f1.f0)
         ·
          rw [if_pos c38] at H;have c38b0:decide (a1≤((Yr l0 YT).f1.f0))=true:=decide_eq_true c38;clear c38
          (first|rw [c38b0]|(simp only [Qj,Qk];rw [c38b0])|skip)
          have H':=Q0.mk H;clear H;have qqi:=Ko.out;have qqj:=JG.out;have quA:=Kp.out;have quR:=JH.out;have qjv:w34.cell? ⟨G2,0,none⟩=some (.int .i64 0):=(Qb Zz.out 0).trans rfl;have qjw:w34.cell? ⟨G2,1,none⟩=some (.int .i64 0):=(Qb Zz.out 1).trans rfl;have qjx:w34.cell? ⟨G2,2,none⟩=some (.int .i64 0):=(Qb Zz.out 2).trans rfl;have qjL:=Qc Zz.out 0;have qjM:=Qc Zz.out 1;have qjN:=Qc Zz.out 2
          go_wp2
          go_meet
          case rel=>exact ⟨_,(decide (((Yr l0 YT).f1.f1)≤a2)),(by first|rfl|(simp;done)|(simp [*];done)),H',⟨by have:=HK1.out;have:=Wm.out;have:=HK3.out;first|omega|exact Nat.le_refl _⟩,⟨by (with_reducible repeat (first|refine Q3 ?_ _|refine Q6 ?_|refine Q2 ?_ _));refine Qu ?_ JG.out _;(with_reducible repeat (first|refine Q3 ?_ _|refine Q6 ?_|refine Q2 ?_ _));refine Qu ?_ JG.out _;(with_reducible repeat (first|refine Q3 ?_ _|refine Q6 ?_|refine Q2 ?_ _));refine Qu ?_ JG.out _;(with_reducible repeat (first|refine Q3 ?_ _|refine Q6 ?_|refine Q2 ?_ _));exact Zm.out⟩,⟨by (with_reducible repeat (first|refine Q3 ?_ _|refine Q6 ?_|refine Q2 ?_ _));refine Qu ?_ JH.out _;(with_reducible repeat (first|refine Q3 ?_ _|refine Q6 ?_|refine Q2 ?_ _));refine Qu ?_ JH.out _;(with_reducible repeat (first|refine Q3 ?_ _|refine Q6 ?_|refine Q2 ?_ _));refine Qu ?_ JH.out _;(with_reducible repeat (first|refine Q3 ?_ _|refine Q6 ?_|refine Q2 ?_ _));exact JJ.out⟩,⟨by (with_reducible repeat (first|refine Q3 ?_ _|refine Q6 ?_|refine Q2 ?_ _));refine QJ (cs:=#[.int .i64 ((Yr l0 YT).f0),.int .i64 ((Yr l0 YT).f1.f0),.int .i64 0]) ?_ 2 _ rfl;(with_reducible repeat (first|refine Q3 ?_ _|refine Q6 ?_|refine Q2 ?_ _));refine QJ (cs:=#[.int .i64 ((Yr l0 YT).f0),.int .i64 0,.int .i64 0]) ?_ 1 _ rfl;(with_reducible repeat (first|refine Q3 ?_ _|refine Q6 ?_|refine Q2 ?_ _));refine QJ (cs:=#[.int .i64 0,.int .i64 0,.int .i64 0]) ?_ 0 _ rfl;(with_reducible repeat (first|refine Q3 ?_ _|refine Q6 ?_|refine Q2 ?_ _));exact Zz.out⟩,⟨by repeat (first|(with_reducible first|exact HB.out|apply Q4|apply Q1|apply Qa|refine Q5 ?_ JX.out|refine Q5 ?_ Wu.out|refine Q5 ?_ qca.out)|exact HB.out)⟩⟩
         rw [if_neg c38] at H;have c38b0:decide (a1≤((Yr l0 YT).f1.f0))=false:=decide_eq_false c38;clear c38
         (first|rw [c38b0]|(simp only [Qj,Qk];rw [c38b0])|skip)
         have H':=Q0.mk H;clear H;have quB:=Ko.out;have quS:=JG.out;have qEf:=Kp.out;have qEQ:=JH.out;have qnW:w34.cell? ⟨G2,0,none⟩=some (.int .i64 0):=(Qb Zz.out 0).trans rfl;have qnX:w34.cell? ⟨G2,1,none⟩=some (.int .i64 0):=(Qb Zz.out 1).trans rfl;have qnY:w34.cell? ⟨G2,2,none⟩=some (.int .i64 0):=(Qb Zz.out 2).trans rfl;have qoq:=Qc Zz.out 0;have qor:=Qc Zz.out 1;have qot:=Qc Zz.out 2
         go_wp2
         go_meet
         case rel=>exact ⟨_,(false),(by first|rfl|(simp;done)|(simp [*];done)),H',⟨by have:=HK1.out;have:=Wm.out;have:=HK3.out;first|omega|exact Nat.le_refl _⟩,⟨by (with_reducible repeat (first|refine Q3 ?_ _|refine Q6 ?_|refine Q2 ?_ _));refine Qu ?_ JG.out _;(with_reducible repeat (first|refine Q3 ?_ _|refine Q6 ?_|refine Q2 ?_ _));refine Qu ?_ JG.out _;(with_reducible repeat (first|refine Q3 ?_ _|refine Q6 ?_|refine Q2 ?_ _));refine Qu ?_ JG.out _;(with_reducible repeat (first|refine Q3 ?_ _|refine Q6 ?_|refine Q2 ?_ _));exact Zm.out⟩,⟨by (with_reducible repeat (first|refine Q3 ?_ _|refine Q6 ?_|refine Q2 ?_ _));refine Qu ?_ JH.out _;(with_reducible repeat (first|refine Q3 ?_ _|refine Q6 ?_|refine Q2 ?_ _));refine Qu ?_ JH.out _;(with_reducible repeat (first|refine Q3 ?_ _|refine Q6 ?_|refine Q2 ?_ _));refine Qu ?_ JH.out _;(with_reducible repeat (first|refine Q3 ?_ _|refine Q6 ?_|refine Q2 ?_ _));exact JJ.out⟩,⟨by (with_reducible repeat (first|refine Q3 ?_ _|refine Q6 ?_|refine Q2 ?_ _));refine QJ (cs:=#[.int .i64 ((Yr l0 YT).f0),.int .i64 ((Yr l0 YT).f1.f0),.int .i64 0]) ?_ 2 _ rfl;(with_reducible repeat (first|refine Q3 ?_ _|refine Q6 ?_|refine Q2 ?_ _));refine QJ (cs:=#[.int .i64 ((Yr l0 YT).f0),.int .i64 0,.int .i64 0]) ?_ 1 _ rfl;(with_reducible repeat (first|refine Q3 ?_ _|refine Q6 ?_|refine Q2 ?_ _));refine QJ (cs:=#[.int .i64 0,.int .i64 0,.int .i64 0]) ?_ 0 _ rfl;(with_reducible repeat (first|refine Q3 ?_ _|refine Q6 ?_|refine Q2 ?_ _));exact Zz.out⟩,⟨by repeat (first|(with_reducible first|exact HB.out|apply Q4|apply Q1|apply Qa|refine Q5 ?_ JX.out|refine Q5 ?_ Wu.out|refine Q5 ?_ qca.out)|exact HB.out)⟩⟩
        clear qqC;(try clear c1);(try clear p1);(try clear q1);(try clear hx1);(try clear c2);(try clear p2);(try clear c3);(try clear c4);(try clear c5);(try clear c5b0);(try clear c6);(try clear c6b0);(try clear p6);(try clear c7);(try clear c7b0);(try clear c8);(try clear c10);(try clear p10);(try clear q10);(try clear qu5);(try clear p11);(try clear q11);(try clear qGH);(try clear c13);(try clear c17);(try clear c19);(try clear c20);(try clear c22);(try clear c25);(try clear c27);(try clear c30);(try clear c30b0);(try clear c31);(try clear c31b0);(try clear c32);(try clear c32b0);(try clear c35);(try clear c36);(try clear c38);(try clear c38b0);(try clear c39);(try clear c40);(try clear c42);(try clear c43);(try clear UH);(try clear UI);(try clear UJ);(try clear UN);(try clear UO);(try clear UP);(try clear U1);(try clear U2);(try clear U3);(try clear qe7);(try clear qe8);(try clear qnN);(try clear qnO);(try clear qnP);(try clear qjv);(try clear qjw);(try clear qjx);(try clear qnW);(try clear qnX);(try clear qnY);(try clear UU);(try clear UV);(try clear UW);(try clear W4);(try clear W5);(try clear W6);(try clear Ub);(try clear Uc);(try clear Ud);(try clear qfl);(try clear qfm);(try clear qoh);(try clear qoi);(try clear qoj);(try clear qjL);(try clear qjM);(try clear qjN);(try clear qoq);(try clear qor);(try clear qot);(try clear K0);(try clear K1);(try clear K2);(try clear qdj);(try clear qdk);(try clear qdl);(try clear p1);(try clear p10);(try clear qbO);(try clear qoR);(try clear p2);(try clear p6);(try clear q1);(try clear q10);(try clear qbQ);(try clear qoY);obtain ⟨kq,qf3,rfl,HA,qco,Zm,JJ,Zz,HB⟩:=hcut
        cases kq with
        | zero=>exact absurd HA.out (by simp [Y5.j3])
        | succ qcq =>
         have H:=HA.out;clear HA;simp only [Y5.j3] at H
         by_cases c45:qf3=true
         ·
          subst c45
          have H1:(if a1≤((Yr l0 YT).f1.f1) then (if ((Yr l0 YT).f1.f0)≤a2 then (Y5.l1 qcq a1 a2 l0 (l0.length:Int) (wrap64 (YT+1)) (wrap64 (Z5+((Yr l0 YT).f0))) (wrap64 (Z7+((Yr l0 YT).f0)))) else (Y5.l1 qcq a1 a2 l0 (l0.length:Int) (wrap64 (YT+1)) (wrap64 (Z5+((Yr l0 YT).f0))) Z7)) else (Y5.l1 qcq a1 a2 l0 (l0.length:Int) (wrap64 (YT+1)) (wrap64 (Z5+((Yr l0 YT).f0))) Z7))=some (r1,r2,r3):=by rw [if_pos rfl] at H;exact H
          clear H;have H:=H1;clear H1
          by_cases c46:a1≤((Yr l0 YT).f1.f1)
          ·
           rw [if_pos c46] at H;have c46b0:decide (a1≤((Yr l0 YT).f1.f1))=true:=decide_eq_true c46;clear c46
           by_cases c47:((Yr l0 YT).f1.f0)≤a2
           ·
            rw [if_pos c47] at H;have c47b0:decide (((Yr l0 YT).f1.f0)≤a2)=true:=decide_eq_true c47;clear c47;have H':=Q0.mk H;clear H;have quC:=Wy.out;have quT:=GQ.out;have quD:=JH.out;have quU:=Kp.out;have qnZ:wc.cell? ⟨Kx,0,none⟩=some (.int .i64 Z5):=(Qb JJ.out 0).trans rfl;have qn0:wc.cell? ⟨Kx,1,none⟩=some (.int .i64 Z7):=(Qb JJ.out 1).trans rfl;have qou:=Qc JJ.out 0;have qov:=Qc JJ.out 1;have qEi:=Ko.out;have qET:=JG.out;have qv1:wc.cell? ⟨G2,0,none⟩=some (.int .i64 ((Yr l0 YT).f0)):=(Qb Zz.out 0).trans rfl;have qv2:wc.cell? ⟨G2,1,none⟩=some (.int .i64 ((Yr l0 YT).f1.f0)):=(Qb Zz.out 1).trans rfl;have qv3:wc.cell? ⟨G2,2,none⟩=some (.int .i64 ((Yr l0 YT).f1.f1)):=(Qb Zz.out 2).trans rfl;have qx1:=Qc Zz.out 0;have qx2:=Qc Zz.out 1;have qx3:=Qc Zz.out 2
            go_wp2
            go_roundg qcq
            case measure=>have:=HK1.out;have:=Wm.out;have:=HK3.out;have:=qco.out;omega
            case rel=>exact ⟨(wrap64 (YT+1)),(wrap64 (Z5+((Yr l0 YT).f0))),(wrap64 (Z7+((Yr l0 YT).f0))),(by first|rfl|(simp;done)|(simp [*];done)),H',⟨by have:=HK1.out;have:=Wm.out;have:=HK3.out;have:=qco.out;omega⟩,⟨by (with_reducible repeat (first|refine Q3 ?_ _|refine Q6 ?_|refine Q2 ?_ _));refine Qu ?_ GQ.out _;(with_reducible repeat (first|refine Q3 ?_ _|refine Q6 ?_|refine Q2 ?_ _));refine Qu ?_ GQ.out _;(with_reducible repeat (first|refine Q3 ?_ _|refine Q6 ?_|refine Q2 ?_ _));exact Zm.out⟩,⟨by (with_reducible repeat (first|refine Q3 ?_ _|refine Q6 ?_|refine Q2 ?_ _));refine QJ (cs:=#[.int .i64 (wrap64 (Z5+((Yr l0 YT).f0))),.int .i64 Z7]) ?_ 1 _ rfl;(with_reducible repeat (first|refine Q3 ?_ _|refine Q6 ?_|refine Q2 ?_ _));refine QJ (cs:=#[.int .i64 Z5,.int .i64 Z7]) ?_ 0 _ rfl;(with_reducible repeat (first|refine Q3 ?_ _|refine Q6 ?_|refine Q2 ?_ _));exact JJ.out⟩,⟨by repeat (first|(with_reducible first|exact HB.out|apply Q4|apply Q1|apply Qa|refine Q5 ?_ JX.out|refine Q5 ?_ Wu.out|refine Q5 ?_ qca.out)|exact HB.out)⟩⟩
           rw [if_neg c47] at H;have c47b0:decide (((Yr l0 YT).f1.f0)≤a2)=false:=decide_eq_false c47;clear c47;have H':=Q0.mk H;clear H;have quE:=Wy.out;have quV:=GQ.out;have qEj:=JH.out;have qEU:=Kp.out;have qv4:wc.cell? ⟨Kx,0,none⟩=some (.int .i64 Z5):=(Qb JJ.out 0).trans rfl;have qv5:wc.cell? ⟨Kx,1,none⟩=some (.int .i64 Z7):=(Qb JJ.out 1).trans rfl;have qx4:=Qc JJ.out 0;have qx5:=Qc JJ.out 1;have qEk:=Ko.out;have qEV:=JG.out;have qv6:wc.cell? ⟨G2,0,none⟩=some (.int .i64 ((Yr l0 YT).f0)):=(Qb Zz.out 0).trans rfl;have qv7:wc.cell? ⟨G2,1,none⟩=some (.int .i64 ((Yr l0 YT).f1.f0)):=(Qb Zz.out 1).trans rfl;have qv8:wc.cell? ⟨G2,2,none⟩=some (.int .i64 ((Yr l0 YT).f1.f1)):=(Qb Zz.out 2).trans rfl;have qx6:=Qc Zz.out 0;have qx7:=Qc Zz.out 1;have qx8:=Qc Zz.out 2
           go_wp2
           go_roundg qcq
           case measure=>have:=HK1.out;have:=Wm.out;have:=HK3.out;have:=qco.out;omega
           case rel=>exact ⟨(wrap64 (YT+1)),(wrap64 (Z5+((Yr l0 YT).f0))),(Z7),(by first|rfl|(simp;done)|(simp [*];done)),H',⟨by have:=HK1.out;have:=Wm.out;have:=HK3.out;have:=qco.out;omega⟩,⟨by (with_reducible repeat (first|refine Q3 ?_ _|refine Q6 ?_|refine Q2 ?_ _));refine Qu ?_ GQ.out _;(with_reducible repeat (first|refine Q3 ?_ _|refine Q6 ?_|refine Q2 ?_ _));exact Zm.out⟩,⟨by (with_reducible repeat (first|refine Q3 ?_ _|refine Q6 ?_|refine Q2 ?_ _));refine QJ (cs:=#[.int .i64 Z5,.int .i64 Z7]) ?_ 0 _ rfl;(with_reducible repeat (first|refine Q3 ?_ _|refine Q6 ?_|refine Q2 ?_ _));exact JJ.out⟩,⟨by repeat (first|(with_reducible first|exact HB.out|apply Q4|apply Q1|apply Qa|refine Q5 ?_ JX.out|refine Q5 ?_ Wu.out|refine Q5 ?_ qca.out)|exact HB.out)⟩⟩
          rw [if_neg c46] at H;have c46b0:decide (a1≤((Yr l0 YT).f1.f1))=false:=decide_eq_false c46;clear c46;have H':=Q0.mk H;clear H;have quF:=Wy.out;have quW:=GQ.out;have quG:=JH.out;have quX:=Kp.out;have qv9:wc.cell? ⟨Kx,0,none⟩=some (.int .i64 Z5):=(Qb JJ.out 0).trans rfl;have qwa:wc.cell? ⟨Kx,1,none⟩=some (.int .i64 Z7):=(Qb JJ.out 1).trans rfl;have qx9:=Qc JJ.out 0;have qya:=Qc JJ.out 1;have qEm:=Ko.out;have qEX:=JG.out;have qwc:wc.cell? ⟨G2,0,none⟩=some (.int .i64 ((Yr l0 YT).f0)):=(Qb Zz.out 0).trans rfl;have qwd:wc.cell? ⟨G2,1,none⟩=some (.int .i64 ((Yr l0 YT).f1.f0)):=(Qb Zz.out 1).trans rfl;have qwe:wc.cell? ⟨G2,2,none⟩=some (.int .i64 ((Yr l0 YT).f1.f1)):=(Qb Zz.out 2).trans rfl;have qyc:=Qc Zz.out 0;have qyd:=Qc Zz.out 1;have qye:=Qc Zz.out 2
          go_wp2
          go_roundg qcq
          case measure=>have:=HK1.out;have:=Wm.out;have:=HK3.out;have:=qco.out;omega
          case rel=>exact ⟨(wrap64 (YT+1)),(wrap64 (Z5+((Yr l0 YT).f0))),(Z7),(by first|rfl|(simp;done)|(simp [*];done)),H',⟨by have:=HK1.out;have:=Wm.out;have:=HK3.out;have:=qco.out;omega⟩,⟨by (with_reducible repeat (first|refine Q3 ?_ _|refine Q6 ?_|refine Q2 ?_ _));refine Qu ?_ GQ.out _;(with_reducible repeat (first|refine Q3 ?_ _|refine Q6 ?_|refine Q2 ?_ _));exact Zm.out⟩,⟨by (with_reducible repeat (first|refine Q3 ?_ _|refine Q6 ?_|refine Q2 ?_ _));refine QJ (cs:=#[.int .i64 Z5,.int .i64 Z7]) ?_ 0 _ rfl;(with_reducible repeat (first|refine Q3 ?_ _|refine Q6 ?_|refine Q2 ?_ _));exact JJ.out⟩,⟨by repeat (first|(with_reducible first|exact HB.out|apply Q4|apply Q1|apply Qa|refine Q5 ?_ JX.out|refine Q5 ?_ Wu.out|refine Q5 ?_ qca.out)|exact HB.out)⟩⟩
         replace c45:=Bool.eq_false_iff.mpr c45;subst c45
         have H1:(if a1≤((Yr l0 YT).f1.f1) then (if ((Yr l0 YT).f1.f0)≤a2 then (Y5.l1 qcq a1 a2 l0 (l0.length:Int) (wrap64 (YT+1)) Z5 (wrap64 (Z7+((Yr l0 YT).f0)))) else (Y5.l1 qcq a1 a2 l0 (l0.length:Int) (wrap64 (YT+1)) Z5 Z7)) else (Y5.l1 qcq a1 a2 l0 (l0.length:Int) (wrap64 (YT+1)) Z5 Z7))=some (r1,r2,r3):=by rw [if_neg (show ¬ (false=true) by decide)] at H;exact H
         clear H;have H:=H1;clear H1
         by_cases c63:a1≤((Yr l0 YT).f1.f1)
         ·
          rw [if_pos c63] at H;have c63b0:decide (a1≤((Yr l0 YT).f1.f1))=true:=decide_eq_true c63;clear c63
          by_cases c64:((Yr l0 YT).f1.f0)≤a2
          ·
           rw [if_pos c64] at H;have c64b0:decide (((Yr l0 YT).f1.f0)≤a2)=true:=decide_eq_true c64;clear c64;have H':=Q0.mk H;clear H;have quH:=Ko.out;have quY:=JG.out;have qEp:=Kp.out;have qE0:=JH.out;have qwq:wc.cell? ⟨G2,0,none⟩=some (.int .i64 ((Yr l0 YT).f0)):=(Qb Zz.out 0).trans rfl;have qwr:wc.cell? ⟨G2,1,none⟩=some (.int .i64 ((Yr l0 YT).f1.f0)):=(Qb Zz.out 1).trans rfl;have qws:wc.cell? ⟨G2,2,none⟩=some (.int .i64 ((Yr l0 YT).f1.f1)):=(Qb Zz.out 2).trans rfl;have qyq:=Qc Zz.out 0;have qyr:=Qc Zz.out 1;have qys:=Qc Zz.out 2;have qEq:=Wy.out;have qE1:=GQ.out;have qwt:wc.cell? ⟨Kx,0,none⟩=some (.int .i64 Z5):=(Qb JJ.out 0).trans rfl;have qwu:wc.cell? ⟨Kx,1,none⟩=some (.int .i64 Z7):=(Qb JJ.out 1).trans rfl;have qyt:=Qc JJ.out 0;have qyu:=Qc JJ.out 1
           go_wp2
           go_roundg qcq
           case measure=>have:=HK1.out;have:=Wm.out;have:=HK3.out;have:=qco.out;omega
           case rel=>exact ⟨(wrap64 (YT+1)),(Z5),(wrap64 (Z7+((Yr l0 YT).f0))),(by first|rfl|(simp;done)|(simp [*];done)),H',⟨by have:=HK1.out;have:=Wm.out;have:=HK3.out;have:=qco.out;omega⟩,⟨by (with_reducible repeat (first|refine Q3 ?_ _|refine Q6 ?_|refine Q2 ?_ _));refine Qu ?_ GQ.out _;(with_reducible repeat (first|refine Q3 ?_ _|refine Q6 ?_|refine Q2 ?_ _));exact Zm.out⟩,⟨by (with_reducible repeat (first|refine Q3 ?_ _|refine Q6 ?_|refine Q2 ?_ _));refine QJ (cs:=#[.int .i64 Z5,.int .i64 Z7]) ?_ 1 _ rfl;(with_reducible repeat (first|refine Q3 ?_ _|refine Q6 ?_|refine Q2 ?_ _));exact JJ.out⟩,⟨by repeat (first|(with_reducible first|exact HB.out|apply Q4|apply Q1|apply Qa|refine Q5 ?_ JX.out|refine Q5 ?_ Wu.out|refine Q5 ?_ qca.out)|exact HB.out)⟩⟩
          rw [if_neg c64] at H;have c64b0:decide (((Yr l0 YT).f1.f0)≤a2)=false:=decide_eq_false c64;clear c64;have H':=Q0.mk H;clear H;have quI:=Ko.out;have quZ:=JG.out;have quJ:=Kp.out;have qu0:=JH.out;have qwv:wc.cell? ⟨G2,0,none⟩=some (.int .i64 ((Yr l0 YT).f0)):=(Qb Zz.out 0).trans rfl;have qww:wc.cell? ⟨G2,1,none⟩=some (.int .i64 ((Yr l0 YT).f1.f0)):=(Qb Zz.out 1).trans rfl;have qwx:wc.cell? ⟨G2,2,none⟩=some (.int .i64 ((Yr l0 YT).f1.f1)):=(Qb Zz.out 2).trans rfl;have qyv:=Qc Zz.out 0;have qyw:=Qc Zz.out 1;have qyx:=Qc Zz.out 2
          go_wp2
          go_roundg qcq
          case measure=>have:=HK1.out;have:=Wm.out;have:=HK3.out;have:=qco.out;omega
          case rel=>exact ⟨(wrap64 (YT+1)),(Z5),(Z7),(by first|rfl|(simp;done)|(simp [*];done)),H',⟨by have:=HK1.out;have:=Wm.out;have:=HK3.out;have:=qco.out;omega⟩,⟨by (with_reducible repeat (first|refine Q3 ?_ _|refine Q6 ?_|refine Q2 ?_ _));exact Zm.out⟩,⟨by (with_reducible repeat (first|refine Q3 ?_ _|refine Q6 ?_|refine Q2 ?_ _));exact JJ.out⟩,⟨by repeat (first|(with_reducible first|exact HB.out|apply Q4|apply Q1|apply Qa|refine Q5 ?_ JX.out|refine Q5 ?_ Wu.out|refine Q5 ?_ qca.out)|exact HB.out)⟩⟩
         rw [if_neg c63] at H;have c63b0:decide (a1≤((Yr l0 YT).f1.f1))=false:=decide_eq_false c63;clear c63;have H':=Q0.mk H;clear H;have qEt:=Ko.out;have qE4:=JG.out;have qEu:=Kp.out;have qE5:=JH.out;have qn1:wc.cell? ⟨G2,0,none⟩=some (.int .i64 ((Yr l0 YT).f0)):=(Qb Zz.out 0).trans rfl;have qn2:wc.cell? ⟨G2,1,none⟩=some (.int .i64 ((Yr l0 YT).f1.f0)):=(Qb Zz.out 1).trans rfl;have qn3:wc.cell? ⟨G2,2,none⟩=some (.int .i64 ((Yr l0 YT).f1.f1)):=(Qb Zz.out 2).trans rfl;have qow:=Qc Zz.out 0;have qox:=Qc Zz.out 1;have qoy:=Qc Zz.out 2
         go_wp2
         go_roundg qcq
         case measure=>have:=HK1.out;have:=Wm.out;have:=HK3.out;have:=qco.out;omega
         case rel=>exact ⟨(wrap64 (YT+1)),(Z5),(Z7),(by first|rfl|(simp;done)|(simp [*];done)),H',⟨by have:=HK1.out;have:=Wm.out;have:=HK3.out;have:=qco.out;omega⟩,⟨by (with_reducible repeat (first|refine Q3 ?_ _|refine Q6 ?_|refine Q2 ?_ _));exact Zm.out⟩,⟨by (with_reducible repeat (first|refine Q3 ?_ _|refine Q6 ?_|refine Q2 ?_ _));exact JJ.out⟩,⟨by repeat (first|(with_reducible first|exact HB.out|apply Q4|apply Q1|apply Qa|refine Q5 ?_ JX.out|refine Q5 ?_ Wu.out|refine Q5 ?_ qca.out)|exact HB.out)⟩⟩
       rw [if_neg c32] at H
       exact absurd H (by simp)
      rw [if_neg c31] at H
      exact absurd H (by simp)
     rw [if_neg c30] at H;have c30b0:decide (YT<(l0.length:Int))=false:=decide_eq_false c30;clear c30;simp only [Option.some.injEq,Prod.mk.injEq] at H;obtain ⟨rfl,rfl,rfl⟩:=H;have qEv:=Wy.out;have qE6:=GQ.out;have qn4:wr.cell? ⟨Kx,0,none⟩=some (.int .i64 Z5):=(Qb JJ.out 0).trans rfl;have qwM:wr.cell? ⟨Kx,1,none⟩=some (.int .i64 Z7):=(Qb JJ.out 1).trans rfl;have qoz:=Qc JJ.out 0;have qyM:=Qc JJ.out 1;have qwN:wr.cell? ⟨Ji,0,none⟩=some (.int .i64 0):=(Qb Zm.out 0).trans rfl;have qwO:wr.cell? ⟨Ji,1,none⟩=some (.int .i64 0):=(Qb Zm.out 1).trans rfl;have qyN:=Qc Zm.out 0;have qyO:=Qc Zm.out 1
     go_wp2
     refine bodyPost_ret (qaL rfl _ _ Ji 25 #[.int .i64 Z5,.int .i64 Z7] (0,0) _ rfl (by (with_reducible repeat (first|refine Q3 ?_ _|refine Q6 ?_|refine Q2 ?_ _));refine QJ (cs:=#[.int .i64 Z5,.int .i64 0]) ?_ 1 _ rfl;(with_reducible repeat (first|refine Q3 ?_ _|refine Q6 ?_|refine Q2 ?_ _));refine QJ (cs:=#[.int .i64 0,.int .i64 0]) ?_ 0 _ rfl;(with_reducible repeat (first|refine Q3 ?_ _|refine Q6 ?_|refine Q2 ?_ _));exact Zm.out) Try.underlying25 rfl (by kernel_rfl)) rfl ?_
     exact ⟨by first|rfl|(simp [QB,QC]<;>rfl)|(simp [*,QB,QC]<;>rfl),by repeat (first|(with_reducible first|exact HB.out|apply Q4|apply Q1|apply Qa|refine Q5 ?_ JX.out|refine Q5 ?_ Wu.out)|exact HB.out)⟩
  replace c22:=Bool.eq_false_iff.mpr c22
  subst c22
  have H1:(some (0,0,90))=some (r1,r2,r3):=by rw [if_neg (show ¬ (false=true) by decide)] at H;exact H
  clear H
  have H:=H1
  clear H1
  simp only [Option.some.injEq,Prod.mk.injEq] at H
  obtain ⟨rfl,rfl,rfl⟩:=H
  have qwP:wr.cell? ⟨Ji,0,none⟩=some (.int .i64 0):=(Qb Zm.out 0).trans rfl
  have qwQ:wr.cell? ⟨Ji,1,none⟩=some (.int .i64 0):=(Qb Zm.out 1).trans rfl
  have qyP:=Qc Zm.out 0
  have qyQ:=Qc Zm.out 1
  go_wp2
  refine bodyPost_ret (qaL rfl _ _ Ji 25 #[.int .i64 0,.int .i64 0] (0,0) _ rfl (by (with_reducible repeat (first|refine Q3 ?_ _|refine Q6 ?_|refine Q2 ?_ _));refine QJ (cs:=#[.int .i64 0,.int .i64 0]) ?_ 1 _ rfl;(with_reducible repeat (first|refine Q3 ?_ _|refine Q6 ?_|refine Q2 ?_ _));refine QJ (cs:=#[.int .i64 0,.int .i64 0]) ?_ 0 _ rfl;(with_reducible repeat (first|refine Q3 ?_ _|refine Q6 ?_|refine Q2 ?_ _));exact Zm.out) Try.underlying25 rfl (by kernel_rfl)) rfl ?_
  exact ⟨by first|rfl|(simp [QB,QC]<;>rfl)|(simp [*,QB,QC]<;>rfl),by repeat (first|(with_reducible first|exact HB.out|apply Q4|apply Q1|apply Qa|refine Q5 ?_ JX.out)|exact HB.out)⟩
end
section
attribute [local go_sem] Yv Yx YK YL Yn Yo Yw Yy
theorem qmb (d:Nat) (w:World) (x0 y0:Int) (x1 y1:Int) :
  (Op.equalIn (d+2) 25 (.agg #[.int .i64 x0,.int .i64 x1]) (.agg #[.int .i64 y0,.int .i64 y1])).run Try.prog w = .ok (x0==y0&&(x1==y1)) w:=by
 refine qmc Try.underlying25 (by kernel_rfl) ?_
 refine qmd (by rfl) (by go_simp;rfl) (by go_simp;rfl) (by go_simp) ?_
 exact qgn (by rfl) (by go_simp;rfl) (by go_simp;rfl) (by go_simp)
end
section
attribute [local go_sem] Yv Yx YK YL Yn Yo Yw Yy
attribute [local go_sem high] qmb
def Z2.l0:Nat→List (S25)→List (S25)→Int→Option (Bool)
 | 0,_,_,_=>none
 | k+1,x0,x1,x5=>if x5<(x0.length:Int) then (if 0≤x5 then (if x5<(x1.length:Int) then (if (!(((YX x0 x5).f0)==((YX x1 x5).f0))||(!(((YX x0 x5).f1)==((YX x1 x5).f1))))=true then (some false) else (Z2.l0 k x0 x1 (wrap64 (x5+1)))) else (none)) else (none)) else (some true)
def Z2.f (k:Nat) (l0:List (S25)) (l1:List (S25)):Option (Bool):=if (l0.length:Int)=(l1.length:Int) then (Z2.l0 k l0 l1 0) else (some false)
set_option maxHeartbeats 8000000 in
set_option maxRecDepth 100000 in
theorem Z2.calls (k:Nat) (A0:Option Addr) (c0:Nat) (l0:List (S25)) (A1:Option Addr) (c1:Nat) (l1:List (S25)) (r:Bool) (w:World) (hr0:Kd.C k25 w A0 l0.length l0) (hc0:l0.length≤c0) (hr1:Kd.C k25 w A1 l1.length l1) (hc1:l1.length≤c1) (h:Z2.f k l0 l1=some r) :
  Calls Try.prog 24 #[.slice A0 l0.length c0,.slice A1 l1.length c1] w fun e w'=>e = .returned (.bool r)∧Z3 w w':=by
 have qcp:=Try.underlying25
 have HR0:=Q0.mk hr0
 have HC0:=Q0.mk hc0
 clear hr0 hc0
 have HR1:=Q0.mk hr1
 have HC1:=Q0.mk hc1
 clear hr1 hc1
 have H:(if (l0.length:Int)=(l1.length:Int) then (Z2.l0 k l0 l1 0) else (some false))=some r:=h
 clear h
 by_cases c3:(l0.length:Int)=(l1.length:Int)
 ·
  rw [if_pos c3] at H
  have c3b0:((l0.length:Int)==(l1.length:Int))=true:=beq_iff_eq.mpr c3
  have c3b1:((l0.length:Int) != (l1.length:Int))=false:=bne_eq_false_iff_eq.mpr c3
  have c3b2:(l0.length==l1.length)=true:=by first|simpa using c3|(simp at c3 ⊢;omega)
  clear c3
  have H':=Q0.mk H
  clear H
  go_enter Try.func24,Try.ntmps24
  go_wp2
  repeat (go_quiet (fail);try go_wp2)
  go_loopg [5] k (fun kq v5 w' => ∃ (ZO:Int),v5 = .int .i64 ZO∧Q0 (Z2.l0 kq l0 l1 ZO=some r)∧Q0 (kq≤k)∧Z3 w w')
  case atStart=>exact ⟨(0),(by first|rfl|(simp;done)|(simp [*];done)),H',⟨Nat.le_refl _⟩,by repeat (first|exact Z3.refl _|apply Z3.step)⟩
  clear H'
  try clear c1
  try clear c2
  try clear p2
  try clear c3
  try clear c3b0
  try clear c3b1
  try clear c3b2
  obtain ⟨ZO,rfl,HA,HK1,⟨m1,rfl⟩⟩:=hrel
  cases gk with
  | zero=>exact absurd HA.out (by simp [Z2.l0])
  | succ k1 =>
   have H:=HA.out
   clear HA
   simp only [Z2.l0] at H
   by_cases c4:ZO<(l0.length:Int)
   ·
    rw [if_pos c4] at H;have c4b0:decide (ZO<(l0.length:Int))=true:=decide_eq_true c4;clear c4
    by_cases c5:0≤ZO
    ·
     rw [if_pos c5] at H;have c5b0:decide (0≤ZO)=true:=decide_eq_true c5;clear c5
     by_cases c6:ZO<(l1.length:Int)
     ·
      rw [if_pos c6] at H;have c6b0:decide (ZO<(l1.length:Int))=true:=decide_eq_true c6;clear c6
      by_cases c7:(!(((YX l0 ZO).f0)==((YX l1 ZO).f0))||(!(((YX l0 ZO).f1)==((YX l1 ZO).f1))))=true
      ·
       rw [if_pos c7] at H;have c7b0:(!(((YX l0 ZO).f0)==((YX l1 ZO).f0))||(!(((YX l0 ZO).f1)==((YX l1 ZO).f1))))=true:=c7;clear c7;obtain rfl:=Option.some.inj H;have qii:0≤(ZO:Int):=of_decide_eq_true (by first|(with_reducible assumption)|assumption);have qiz:ZO<(l0.length:Int):=of_decide_eq_true (by first|(with_reducible assumption)|assumption);obtain ⟨qsy,qqU,qoB,qoC⟩:=WO HR0.out ZO qii qiz;cases qqU;replace qii:=eq_true qii;replace qiz:=eq_true qiz;have qij:0≤(ZO:Int):=of_decide_eq_true (by first|(with_reducible assumption)|assumption);have qiA:ZO<(l1.length:Int):=of_decide_eq_true (by first|(with_reducible assumption)|assumption);obtain ⟨qsz,e143,qoD,qoE⟩:=WO HR1.out ZO qij qiA;cases e143;replace qij:=eq_true qij;replace qiA:=eq_true qiA
       go_wp2
       repeat (go_quiet (fail);try go_wp2)
       go_ret
       exact ⟨by first|rfl|(simp;done)|(simp [*];done),by repeat (first|exact Z3.refl _|apply Z3.step)⟩
      rw [if_neg c7] at H
      have c7b0:(!(((YX l0 ZO).f0)==((YX l1 ZO).f0))||(!(((YX l0 ZO).f1)==((YX l1 ZO).f1))))=false:=by simpa using c7
      clear c7;have H':=Q0.mk H;clear H;have qii:0≤(ZO:Int):=of_decide_eq_true (by first|(with_reducible assumption)|assumption);have qiz:ZO<(l0.length:Int):=of_decide_eq_true (by first|(with_reducible assumption)|assumption);obtain ⟨qsy,qqU,qoB,qoC⟩:=WO HR0.out ZO qii qiz;cases qqU;replace qii:=eq_true qii;replace qiz:=eq_true qiz;have qij:0≤(ZO:Int):=of_decide_eq_true (by first|(with_reducible assumption)|assumption);have qiA:ZO<(l1.length:Int):=of_decide_eq_true (by first|(with_reducible assumption)|assumption);obtain ⟨qsz,e143,qoD,qoE⟩:=WO HR1.out ZO qij qiA;cases e143;replace qij:=eq_true qij;replace qiA:=eq_true qiA
      go_wp2
      repeat (go_quiet (fail);try go_wp2)
      go_roundg k1
      case measure=>have:=HK1.out;omega
      case rel=>exact ⟨(wrap64 (ZO+1)),(by first|rfl|(simp;done)|(simp [*];done)),H',⟨by have:=HK1.out;omega⟩,by repeat (first|exact Z3.refl _|apply Z3.step)⟩
     rw [if_neg c6] at H
     exact absurd H (by simp)
    rw [if_neg c5] at H
    exact absurd H (by simp)
   rw [if_neg c4] at H
   have c4b0:decide (ZO<(l0.length:Int))=false:=decide_eq_false c4
   clear c4
   obtain rfl:=Option.some.inj H
   go_wp2
   repeat (go_quiet (fail);try go_wp2)
   go_ret
   exact ⟨by first|rfl|(simp;done)|(simp [*];done),by repeat (first|exact Z3.refl _|apply Z3.step)⟩
 rw [if_neg c3] at H
 have c3b0:((l0.length:Int)==(l1.length:Int))=false:=beq_eq_false_iff_ne.mpr c3
 have c3b1:((l0.length:Int) != (l1.length:Int))=true:=bne_iff_ne.mpr c3
 have c3b2:(l0.length==l1.length)=false:=by first|simpa using c3|(simp at c3 ⊢;omega)
 obtain rfl:=Option.some.inj H
 go_enter Try.func24,Try.ntmps24
 go_wp2
 repeat (go_quiet (fail);try go_wp2)
 go_ret
 exact ⟨by first|rfl|(simp;done)|(simp [*];done),by repeat (first|exact Z3.refl _|apply Z3.step)⟩
end
section
attribute [local go_sem] Yv Yx YK YL Yn Yo Yw Yy
def Zb.l0:Nat→List Int→List Int→Int→Option (Bool)
 | 0,_,_,_=>none
 | k+1,x0,x1,x5=>if x5<(x0.length:Int) then (if 0≤x5 then (if x5<(x1.length:Int) then (if (rd x0 x5)=(rd x1 x5) then (Zb.l0 k x0 x1 (wrap64 (x5+1))) else (some false)) else (none)) else (none)) else (some true)
def Zb.f (k:Nat) (l0:List Int) (l1:List Int):Option (Bool):=if (l0.length:Int)=(l1.length:Int) then (Zb.l0 k l0 l1 0) else (some false)
set_option maxHeartbeats 8000000 in
set_option maxRecDepth 100000 in
theorem Zb.calls (k:Nat) (A0:Option Addr) (c0:Nat) (l0:List Int) (A1:Option Addr) (c1:Nat) (l1:List Int) (r:Bool) (w:World) (hr0:Kd.C (Kd.int .i64) w A0 l0.length l0) (hc0:l0.length≤c0) (hr1:Kd.C (Kd.int .i64) w A1 l1.length l1) (hc1:l1.length≤c1) (h:Zb.f k l0 l1=some r) :
  Calls Try.prog 27 #[.slice A0 l0.length c0,.slice A1 l1.length c1] w fun e w'=>e = .returned (.bool r)∧Z3 w w':=by
 have HR0:=Q0.mk hr0
 have HC0:=Q0.mk hc0
 clear hr0 hc0
 have HR1:=Q0.mk hr1
 have HC1:=Q0.mk hc1
 clear hr1 hc1
 have H:(if (l0.length:Int)=(l1.length:Int) then (Zb.l0 k l0 l1 0) else (some false))=some r:=h
 clear h
 by_cases c3:(l0.length:Int)=(l1.length:Int)
 ·
  rw [if_pos c3] at H
  have c3b0:((l0.length:Int)==(l1.length:Int))=true:=beq_iff_eq.mpr c3
  have c3b1:((l0.length:Int) != (l1.length:Int))=false:=bne_eq_false_iff_eq.mpr c3
  have c3b2:(l0.length==l1.length)=true:=by first|simpa using c3|(simp at c3 ⊢;omega)
  clear c3
  have H':=Q0.mk H
  clear H
  go_enter Try.func27,Try.ntmps27
  go_wp2
  repeat (go_quiet (fail);try go_wp2)
  go_loopg [5] k (fun kq v5 w' => ∃ (ZO:Int),v5 = .int .i64 ZO∧Q0 (Zb.l0 kq l0 l1 ZO=some r)∧Q0 (kq≤k)∧Z3 w w')
  case atStart=>exact ⟨(0),(by first|rfl|(simp;done)|(simp [*];done)),H',⟨Nat.le_refl _⟩,by repeat (first|exact Z3.refl _|apply Z3.step)⟩
  clear H'
  try clear c1
  try clear c2
  try clear p2
  try clear c3
  try clear c3b0
  try clear c3b1
  try clear c3b2
  obtain ⟨ZO,rfl,HA,HK1,⟨m1,rfl⟩⟩:=hrel
  cases gk with
  | zero=>exact absurd HA.out (by simp [Zb.l0])
  | succ k1 =>
   have H:=HA.out
   clear HA
   simp only [Zb.l0] at H
   by_cases c4:ZO<(l0.length:Int)
   ·
    rw [if_pos c4] at H;have c4b0:decide (ZO<(l0.length:Int))=true:=decide_eq_true c4;clear c4
    by_cases c5:0≤ZO
    ·
     rw [if_pos c5] at H;have c5b0:decide (0≤ZO)=true:=decide_eq_true c5;clear c5
     by_cases c6:ZO<(l1.length:Int)
     ·
      rw [if_pos c6] at H;have c6b0:decide (ZO<(l1.length:Int))=true:=decide_eq_true c6;clear c6
      by_cases c7:(rd l0 ZO)=(rd l1 ZO)
      ·
       rw [if_pos c7] at H;have c7b0:((rd l0 ZO)==(rd l1 ZO))=true:=beq_iff_eq.mpr c7;have c7b1:((rd l0 ZO) != (rd l1 ZO))=false:=bne_eq_false_iff_eq.mpr c7;clear c7;have H':=Q0.mk H;clear H;have qil:0≤(ZO:Int):=of_decide_eq_true (by first|(with_reducible assumption)|assumption);have qiC:ZO<(l0.length:Int):=of_decide_eq_true (by first|(with_reducible assumption)|assumption);obtain ⟨qsC,e185,qoF⟩:=Kd.at_int HR0.out ZO qil qiC;cases e185;replace qil:=eq_true qil;replace qiC:=eq_true qiC;have qim:0≤(ZO:Int):=of_decide_eq_true (by first|(with_reducible assumption)|assumption);have qiD:ZO<(l1.length:Int):=of_decide_eq_true (by first|(with_reducible assumption)|assumption);obtain ⟨qsD,qqX,qoG⟩:=Kd.at_int HR1.out ZO qim qiD;cases qqX;replace qim:=eq_true qim;replace qiD:=eq_true qiD
       go_wp2
       repeat (go_quiet (fail);try go_wp2)
       go_roundg k1
       case measure=>have:=HK1.out;omega
       case rel=>exact ⟨(wrap64 (ZO+1)),(by first|rfl|(simp;done)|(simp [*];done)),H',⟨by have:=HK1.out;omega⟩,by repeat (first|exact Z3.refl _|apply Z3.step)⟩
      rw [if_neg c7] at H;have c7b0:((rd l0 ZO)==(rd l1 ZO))=false:=beq_eq_false_iff_ne.mpr c7;have c7b1:((rd l0 ZO) != (rd l1 ZO))=true:=bne_iff_ne.mpr c7;obtain rfl:=Option.some.inj H;have qil:0≤(ZO:Int):=of_decide_eq_true (by first|(with_reducible assumption)|assumption);have qiC:ZO<(l0.length:Int):=of_decide_eq_true (by first|(with_reducible assumption)|assumption);obtain ⟨qsC,e185,qoF⟩:=Kd.at_int HR0.out ZO qil qiC;cases e185;replace qil:=eq_true qil;replace qiC:=eq_true qiC;have qim:0≤(ZO:Int):=of_decide_eq_true (by first|(with_reducible assumption)|assumption);have qiD:ZO<(l1.length:Int):=of_decide_eq_true (by first|(with_reducible assumption)|assumption);obtain ⟨qsD,qqX,qoG⟩:=Kd.at_int HR1.out ZO qim qiD;cases qqX;replace qim:=eq_true qim;replace qiD:=eq_true qiD
      go_wp2
      repeat (go_quiet (fail);try go_wp2)
      go_ret
      exact ⟨by first|rfl|(simp;done)|(simp [*];done),by repeat (first|exact Z3.refl _|apply Z3.step)⟩
     rw [if_neg c6] at H
     exact absurd H (by simp)
    rw [if_neg c5] at H
    exact absurd H (by simp)
   rw [if_neg c4] at H
   have c4b0:decide (ZO<(l0.length:Int))=false:=decide_eq_false c4
   clear c4
   obtain rfl:=Option.some.inj H
   go_wp2
   repeat (go_quiet (fail);try go_wp2)
   go_ret
   exact ⟨by first|rfl|(simp;done)|(simp [*];done),by repeat (first|exact Z3.refl _|apply Z3.step)⟩
 rw [if_neg c3] at H
 have c3b0:((l0.length:Int)==(l1.length:Int))=false:=beq_eq_false_iff_ne.mpr c3
 have c3b1:((l0.length:Int) != (l1.length:Int))=true:=bne_iff_ne.mpr c3
 have c3b2:(l0.length==l1.length)=false:=by first|simpa using c3|(simp at c3 ⊢;omega)
 obtain rfl:=Option.some.inj H
 go_enter Try.func27,Try.ntmps27
 go_wp2
 repeat (go_quiet (fail);try go_wp2)
 go_ret
 exact ⟨by first|rfl|(simp;done)|(simp [*];done),by repeat (first|exact Z3.refl _|apply Z3.step)⟩
end
section
attribute [local go_sem] Yv Yx YK YL Yn Yo Yw Yy
mutual
def Qz.j0:Nat→Int→Bool→List (S39)→List Int→List (List (List Int))→Option (Int)
 | 0,_,_,_,_,_=>none
 | k+1,x3,x4,ZI,Jb,ZN=>Qz.l0 k x3 x4 0 ZI Jb ZN
def Qz.l0:Nat→Int→Bool→Int→List (S39)→List Int→List (List (List Int))→Option (Int)
 | 0,_,_,_,_,_,_=>none
 | k+1,x3,x4,x5,ZI,Jb,ZN=>if x4=true then (Qz.j2 k x3 x4 x5 (decide (x5<x3)) ZI Jb ZN) else (Qz.j2 k x3 x4 x5 false ZI Jb ZN)
def Qz.j2:Nat→Int→Bool→Int→Bool→List (S39)→List Int→List (List (List Int))→Option (Int)
 | 0,_,_,_,_,_,_,_=>none
 | k+1,x3,x4,x5,x35,ZI,Jb,ZN=>if x35=true then (if 0≤x5 then (if x5<(ZI.length:Int) then ((Qo.f k ((Qm ZI x5).f0) ((Qm ZI x5).f1) ((Qm ZI x5).f2) ((Qm ZI x5).f3) ((Qm ZI x5).f4)).bind fun qli=>(if qli=true then (if x5<(Jb.length:Int) then ((Qv.f (rd Jb x5) 0 100).bind fun t193=>(Qz.l0 k x3 t193 (wrap64 (x5+1)) ZI Jb ZN)) else (none)) else (Qz.l0 k x3 false (wrap64 (x5+1)) ZI Jb ZN))) else (none)) else (none)) else (Qz.l1 k x3 x4 ZN (ZN.length:Int) 0 ZI Jb ZN)
def Qz.l1:Nat→Int→Bool→List (List (List Int))→Int→Int→List (S39)→List Int→List (List (List Int))→Option (Int)
 | 0,_,_,_,_,_,_,_,_=>none
 | k+1,x3,x4,x54,x55,x56,ZI,Jb,ZN=>if x56<x55 then (if 0≤x56 then (if x56<(x54.length:Int) then (if x4=true then (Qz.j4 k x3 (((QU x54 x56).length:Int)==x3) (QU x54 x56) x54 x55 x56 ZI Jb ZN) else (Qz.j4 k x3 false (QU x54 x56) x54 x55 x56 ZI Jb ZN)) else (none)) else (none)) else (if x4=true then (some 0) else (some 93))
def Qz.j4:Nat→Int→Bool→List (List Int)→List (List (List Int))→Int→Int→List (S39)→List Int→List (List (List Int))→Option (Int)
 | 0,_,_,_,_,_,_,_,_,_=>none
 | k+1,x3,x4,x7,x54,x55,x56,ZI,Jb,ZN=>Qz.l2 k x3 x4 x54 x55 x56 x7 (x7.length:Int) 0 ZI Jb ZN
def Qz.l2:Nat→Int→Bool→List (List (List Int))→Int→Int→List (List Int)→Int→Int→List (S39)→List Int→List (List (List Int))→Option (Int)
 | 0,_,_,_,_,_,_,_,_,_,_,_=>none
 | k+1,x3,x4,x54,x55,x56,x67,x68,x69,ZI,Jb,ZN=>if x69<x68 then (if 0≤x69 then (if x69<(x67.length:Int) then (if x4=true then ((Qv.f ((Yq x67 x69).length:Int) 1 10).bind fun t196=>(if t196=true then (if 0<(ZN.length:Int) then (if 0<((QU ZN 0).length:Int) then (Qz.j6 k x3 (((Yq x67 x69).length:Int)==((Yq (QU ZN 0) 0).length:Int)) (Yq x67 x69) x54 x55 x56 x67 x68 x69 ZI Jb ZN) else (none)) else (none)) else (Qz.j6 k x3 false (Yq x67 x69) x54 x55 x56 x67 x68 x69 ZI Jb ZN))) else (Qz.j6 k x3 false (Yq x67 x69) x54 x55 x56 x67 x68 x69 ZI Jb ZN)) else (none)) else (none)) else (Qz.l1 k x3 x4 x54 x55 (wrap64 (x56+1)) ZI Jb ZN)
def Qz.j6:Nat→Int→Bool→List Int→List (List (List Int))→Int→Int→List (List Int)→Int→Int→List (S39)→List Int→List (List (List Int))→Option (Int)
 | 0,_,_,_,_,_,_,_,_,_,_,_,_=>none
 | k+1,x3,x4,x9,x54,x55,x56,x67,x68,x69,ZI,Jb,ZN=>Qz.l3 k x3 x4 x54 x55 x56 x67 x68 x69 x9 (x9.length:Int) 0 ZI Jb ZN
def Qz.l3:Nat→Int→Bool→List (List (List Int))→Int→Int→List (List Int)→Int→Int→List Int→Int→Int→List (S39)→List Int→List (List (List Int))→Option (Int)
 | 0,_,_,_,_,_,_,_,_,_,_,_,_,_,_=>none
 | k+1,x3,x4,x54,x55,x56,x67,x68,x69,x91,x92,x93,ZI,Jb,ZN=>if x93<x92 then (if 0≤x93 then (if x93<(x91.length:Int) then (if x4=true then ((Qv.f (rd x91 x93) 0 100000).bind fun qiS=>(Qz.l3 k x3 qiS x54 x55 x56 x67 x68 x69 x91 x92 (wrap64 (x93+1)) ZI Jb ZN)) else (Qz.l3 k x3 false x54 x55 x56 x67 x68 x69 x91 x92 (wrap64 (x93+1)) ZI Jb ZN)) else (none)) else (none)) else (Qz.l2 k x3 x4 x54 x55 x56 x67 x68 (wrap64 (x69+1)) ZI Jb ZN)
end
def Qz.f (k:Nat) (Qi:List (S39)) (Qn:List Int) (Ql:List (List (List Int))):Option (Int):=(Qv.f (Qi.length:Int) 1 3).bind fun qlh=>(if qlh=true then (if (Qn.length:Int)=(Qi.length:Int) then ((Qv.f (Ql.length:Int) 1 6).bind fun qd1=>(Qz.j0 k (Qi.length:Int) qd1 Qi Qn Ql)) else (Qz.j0 k (Qi.length:Int) false Qi Qn Ql)) else (Qz.j0 k (Qi.length:Int) false Qi Qn Ql))
set_option maxHeartbeats 8000000 in
set_option maxRecDepth 100000 in
theorem Qz.calls (k:Nat) (QT:Option Addr) (QF:Nat) (Qi:List (S39)) (QR:Option Addr) (QH:Nat) (Qn:List Int) (QV:Option Addr) (QI:Nat) (Ql:List (List (List Int))) (r:Int) (w:World) (Gf:Kd.C k39 w QT Qi.length Qi) (Gl:Qi.length≤QF) (Gg:Kd.C (Kd.int .i64) w QR Qn.length Qn) (Gm:Qn.length≤QH) (Gh:Kd.C (Kd.slice 37 (Kd.slice 3 (Kd.int .i64))) w QV Ql.length Ql) (Gn:Ql.length≤QI) (h:Qz.f k Qi Qn Ql=some r) :
  Calls Try.prog 30 #[.agg #[.slice QT Qi.length QF,.slice QR Qn.length QH,.slice QV Ql.length QI]] w fun e w'=>e = .returned (.int .i64 r)∧Below w.heap.size w w':=by
 have qrk:=Try.underlying47
 have qkZ:=Try.underlying39
 have qmB:=Try.underlying111
 have ZU:=Q0.mk Gf
 have JA:=Q0.mk Gl
 clear Gf Gl
 have Jc:=Q0.mk Gg
 have JC:=Q0.mk Gm
 clear Gg Gm
 have Jg:=Q0.mk Gh
 have JD:=Q0.mk Gn
 clear Gh Gn
 have HB:=Q0.mk (Below.refl w.heap.size w)
 have H:((Qv.f (Qi.length:Int) 1 3).bind fun qlh=>(if qlh=true then (if (Qn.length:Int)=(Qi.length:Int) then ((Qv.f (Ql.length:Int) 1 6).bind fun qd1=>(Qz.j0 k (Qi.length:Int) qd1 Qi Qn Ql)) else (Qz.j0 k (Qi.length:Int) false Qi Qn Ql)) else (Qz.j0 k (Qi.length:Int) false Qi Qn Ql)))=some r:=h
 clear h
 have HC2:=Q0.mk H
 clear H
 go_enter Try.func30,Try.ntmps30
 go_upto_region 2 with (first|((with_reducible refine Ya (N:=1) rfl ?_);(try (refine Jp (by rfl) ?_;dsimp only));refine YD ?hg (N:=1) ?hd (cs:=#[.slice QT Qi.length QF,.slice QR Qn.length QH,.slice QV Ql.length QI]) (t:=47) ?hr ?_;(case hd=>rfl);(case hg=>rfl);(case hr=>first|(go_simp;done)|(go_simp;rfl));intro JL hg w3 hbox hb;have n0_:=Q0.mk (Qx (by repeat (first|(with_reducible first|exact HB.out|apply Q4|apply Q1|apply Qa)|exact HB.out)) hb);have n1_:=Q0.mk (hbox);have n2_:=Q0.mk ((by rw [hg];exact (Qq (by repeat (first|(with_reducible first|exact HB.out|apply Q4|apply Q1|apply Qa)|exact HB.out))):w.heap.size≤JL));have n3_:=n2_;clear HB;have HB:=n0_;have Z0:=n1_;have qC2:=n2_;have GV:=n3_;clear n0_ n1_ n2_ n3_ hb hbox hg;have Gu:w3.cell? ⟨JL,0,none⟩=some (.slice QT Qi.length QF):=(Qb Z0.out 0).trans rfl;have Gv:w3.cell? ⟨JL,1,none⟩=some (.slice QR Qn.length QH):=(Qb Z0.out 1).trans rfl;have GG:w3.cell? ⟨JL,2,none⟩=some (.slice QV Ql.length QI):=(Qb Z0.out 2).trans rfl;have Gw:=Qc Z0.out 0;have Gx:=Qc Z0.out 1;have GH:=Qc Z0.out 2))
 (try simp only [Qe,Q7,Qd,Q9,Q8])
 go_cut [4] (fun v4 wc => ∃ (kq:Nat) (Xa:Bool),v4 = .bool Xa∧Q0 (Qz.j0 kq (Qi.length:Int) Xa Qi Qn Ql=some r)∧Q0 (kq≤k)∧Q0 (wc.heap[JL]? = some (.cells #[(.slice QT Qi.length QF),(.slice QR Qn.length QH),(.slice QV Ql.length QI)] 47 (0,0)))∧Q0 (Below w.heap.size w wc))
 case first =>
  have H:=HC2.out
  clear HC2
  replace H:=Option.bind_eq_some_iff.mp H
  obtain ⟨qlh,A50,H⟩:=H
  replace H:(if qlh=true then (if (Qn.length:Int)=(Qi.length:Int) then ((Qv.f (Ql.length:Int) 1 6).bind fun qd1=>(Qz.j0 k (Qi.length:Int) qd1 Qi Qn Ql)) else (Qz.j0 k (Qi.length:Int) false Qi Qn Ql)) else (Qz.j0 k (Qi.length:Int) false Qi Qn Ql))=some r:=H
  have A5:=Q0.mk A50
  clear A50
  by_cases c6:qlh=true
  ·
   subst c6
   have H1:(if (Qn.length:Int)=(Qi.length:Int) then ((Qv.f (Ql.length:Int) 1 6).bind fun qd1=>(Qz.j0 k (Qi.length:Int) qd1 Qi Qn Ql)) else (Qz.j0 k (Qi.length:Int) false Qi Qn Ql))=some r:=by rw [if_pos rfl] at H;exact H
   clear H
   have H:=H1
   clear H1
   by_cases c7:(Qn.length:Int)=(Qi.length:Int)
   ·
    rw [if_pos c7] at H;have c7b0:((Qn.length:Int)==(Qi.length:Int))=true:=beq_iff_eq.mpr c7;have c7b1:((Qn.length:Int) != (Qi.length:Int))=false:=bne_eq_false_iff_eq.mpr c7
    have c7b2:(Qn.length==Qi.length)=true:=by first|simpa using c7|(simp at c7 ⊢;omega)
    clear c7
    (first|rw [c7b0]|(simp only [Qj,Qk];rw [c7b0])|skip)
    replace H:=Option.bind_eq_some_iff.mp H;obtain ⟨qd1,A80,H⟩:=H;replace H:(Qz.j0 k (Qi.length:Int) qd1 Qi Qn Ql)=some r:=H;have A8:=Q0.mk A80;clear A80;have H':=Q0.mk H;clear H
    go_wp2_with (first|((with_reducible refine QK (f:=65) rfl ?_);refine YP (some 16) rfl rfl Try.func65 (by kernel_rfl) rfl #[.int .i64 (Qi.length:Int),.int .i64 1,.int .i64 3] rfl (by (try simp only [List.map_toArray,List.map_cons,List.map_nil]);first|done|rfl|(simp only [List.length_drop,List.length_take];rfl)) ?_;(with_reducible refine (Qv.calls (Qi.length:Int) 1 3 true _ A5.out).mono ?_);rintro e w' ⟨rfl,⟨nd,rfl⟩⟩;refine ⟨_,rfl,?_⟩;have KJ:w3.cell? ⟨JL,0,none⟩=some (.slice QT Qi.length QF):=(Qb Z0.out 0).trans rfl;have KL:w3.cell? ⟨JL,1,none⟩=some (.slice QR Qn.length QH):=(Qb Z0.out 1).trans rfl;have KM:w3.cell? ⟨JL,2,none⟩=some (.slice QV Ql.length QI):=(Qb Z0.out 2).trans rfl;have KN:=Qc Z0.out 0;have KO:=Qc Z0.out 1;have KP:=Qc Z0.out 2)|(go_at_call 65;(with_reducible refine (Qv.calls (Ql.length:Int) 1 6 qd1 _ A8.out).mono ?_);rintro e w' ⟨rfl,⟨nd,rfl⟩⟩))
    go_meet
    case rel=>exact ⟨_,(qd1),(by first|rfl|(simp;done)|(simp [*];done)),H',⟨by first|omega|exact Nat.le_refl _⟩,⟨by (with_reducible repeat (first|refine Q3 ?_ _|refine Q6 ?_|refine Q2 ?_ _));exact Z0.out⟩,⟨by repeat (first|(with_reducible first|exact HB.out|apply Q4|apply Q1|apply Qa|refine Q5 ?_ GV.out)|exact HB.out)⟩⟩
   rw [if_neg c7] at H
   have c7b0:((Qn.length:Int)==(Qi.length:Int))=false:=beq_eq_false_iff_ne.mpr c7
   have c7b1:((Qn.length:Int) != (Qi.length:Int))=true:=bne_iff_ne.mpr c7
   have c7b2:(Qn.length==Qi.length)=false:=by first|simpa using c7|(simp at c7 ⊢;omega)
   (first|rw [c7b0]|(simp only [Qj,Qk];rw [c7b0])|skip)
   have H':=Q0.mk H
   clear H
   go_wp2_with (first|((with_reducible refine QK (f:=65) rfl ?_);refine YP (some 16) rfl rfl Try.func65 (by kernel_rfl) rfl #[.int .i64 (Qi.length:Int),.int .i64 1,.int .i64 3] rfl (by (try simp only [List.map_toArray,List.map_cons,List.map_nil]);first|done|rfl|(simp only [List.length_drop,List.length_take];rfl)) ?_;(with_reducible refine (Qv.calls (Qi.length:Int) 1 3 true _ A5.out).mono ?_);rintro e w' ⟨rfl,⟨nd,rfl⟩⟩;refine ⟨_,rfl,?_⟩;have G6:w3.cell? ⟨JL,0,none⟩=some (.slice QT Qi.length QF):=(Qb Z0.out 0).trans rfl;have G7:w3.cell? ⟨JL,1,none⟩=some (.slice QR Qn.length QH):=(Qb Z0.out 1).trans rfl;have Gb:w3.cell? ⟨JL,2,none⟩=some (.slice QV Ql.length QI):=(Qb Z0.out 2).trans rfl;have JM:=Qc Z0.out 0;have JN:=Qc Z0.out 1;have G4:=Qc Z0.out 2))
   go_meet
   case rel=>exact ⟨_,(false),(by first|rfl|(simp;done)|(simp [*];done)),H',⟨by first|omega|exact Nat.le_refl _⟩,⟨by (with_reducible repeat (first|refine Q3 ?_ _|refine Q6 ?_|refine Q2 ?_ _));exact Z0.out⟩,⟨by repeat (first|(with_reducible first|exact HB.out|apply Q4|apply Q1|apply Qa|refine Q5 ?_ GV.out)|exact HB.out)⟩⟩
  replace c6:=Bool.eq_false_iff.mpr c6
  subst c6
  have H1:(Qz.j0 k (Qi.length:Int) false Qi Qn Ql)=some r:=by rw [if_neg (show ¬ (false=true) by decide)] at H;exact H
  clear H
  have H:=H1
  clear H1
  have H':=Q0.mk H
  clear H
  go_wp2_with (first|((with_reducible refine QK (f:=65) rfl ?_);refine YP (some 16) rfl rfl Try.func65 (by kernel_rfl) rfl #[.int .i64 (Qi.length:Int),.int .i64 1,.int .i64 3] rfl (by (try simp only [List.map_toArray,List.map_cons,List.map_nil]);first|done|rfl|(simp only [List.length_drop,List.length_take];rfl)) ?_;(with_reducible refine (Qv.calls (Qi.length:Int) 1 3 false _ A5.out).mono ?_);rintro e w' ⟨rfl,⟨nd,rfl⟩⟩;refine ⟨_,rfl,?_⟩))
  go_meet
  case rel=>exact ⟨_,(false),(by first|rfl|(simp;done)|(simp [*];done)),H',⟨by first|omega|exact Nat.le_refl _⟩,⟨by (with_reducible repeat (first|refine Q3 ?_ _|refine Q6 ?_|refine Q2 ?_ _));exact Z0.out⟩,⟨by repeat (first|(with_reducible first|exact HB.out|apply Q4|apply Q1|apply Qa|refine Q5 ?_ GV.out)|exact HB.out)⟩⟩
 clear HC2
 try clear p2
 try clear c3
 try clear c6
 try clear c7
 try clear c7b0
 try clear c7b1
 try clear c7b2
 try clear G6
 try clear G7
 try clear Gb
 try clear Gu
 try clear Gv
 try clear GG
 try clear KJ
 try clear KL
 try clear KM
 try clear JM
 try clear JN
 try clear G4
 try clear Gw
 try clear Gx
 try clear GH
 try clear KN
 try clear KO
 try clear KP
 obtain ⟨kq,Xa,rfl,HA,HJ1,Z0,HB⟩:=hcut
 cases kq with
 | zero=>exact absurd HA.out (by simp [Qz.j0])
 | succ kj1 =>
  have H:=HA.out
  clear HA
  simp only [Qz.j0] at H
  have H':=Q0.mk H
  clear H
  go_wp2
  go_loopg [4,5] kj1 (fun kq v4 v5 w' => ∃ (O2:Bool) (Y0:Int),v4 = .bool O2∧v5 = .int .i64 Y0∧Q0 (Qz.l0 kq (Qi.length:Int) O2 Y0 Qi Qn Ql=some r)∧Q0 (kq≤kj1)∧Q0 (w'.heap[JL]? = some (.cells #[(.slice QT Qi.length QF),(.slice QR Qn.length QH),(.slice QV Ql.length QI)] 47 (0,0)))∧Q0 (Below w.heap.size w w'))
  case atStart=>exact ⟨(Xa),(0),(by first|rfl|(simp;done)|(simp [*];done)),(by first|rfl|(simp;done)|(simp [*];done)),H',⟨Nat.le_refl _⟩,⟨by (with_reducible repeat (first|refine Q3 ?_ _|refine Q6 ?_|refine Q2 ?_ _));exact Z0.out⟩,⟨by repeat (first|(with_reducible first|exact HB.out|apply Q4|apply Q1|apply Qa|refine Q5 ?_ GV.out)|exact HB.out)⟩⟩
  clear H'
  try clear p2
  try clear c3
  try clear c6
  try clear c7
  try clear c7b0
  try clear c7b1
  try clear c7b2
  try clear G6
  try clear G7
  try clear Gb
  try clear Gu
  try clear Gv
  try clear GG
  try clear KJ
  try clear KL
  try clear KM
  try clear JM
  try clear JN
  try clear G4
  try clear Gw
  try clear Gx
  try clear GH
  try clear KN
  try clear KO
  try clear KP
  try clear p2
  obtain ⟨O2,Y0,rfl,rfl,HA,HK2,Z0,HB⟩:=hrel
  cases gk with
  | zero=>exact absurd HA.out (by simp [Qz.l0])
  | succ k2 =>
   have H:=HA.out
   clear HA
   simp only [Qz.l0] at H
   have qqy:=Q0.mk H
   clear H
   go_upto_region 4 with (fail)
   go_cut [35] (fun v35 wc => ∃ (kq:Nat) (qfY:Bool),v35 = .bool qfY∧Q0 (Qz.j2 kq (Qi.length:Int) O2 Y0 qfY Qi Qn Ql=some r)∧Q0 (kq≤k2)∧Q0 (wc.heap[JL]? = some (.cells #[(.slice QT Qi.length QF),(.slice QR Qn.length QH),(.slice QV Ql.length QI)] 47 (0,0)))∧Q0 (Below w.heap.size w wc))
   case first =>
    have H:=qqy.out;clear qqy
    by_cases c12:O2=true
    ·
     subst c12
     have H1:(Qz.j2 k2 (Qi.length:Int) true Y0 (decide (Y0<(Qi.length:Int))) Qi Qn Ql)=some r:=by rw [if_pos rfl] at H;exact H
     clear H;have H:=H1;clear H1;have H':=Q0.mk H;clear H
     go_wp2
     go_meet
     case rel=>exact ⟨_,(decide (Y0<(Qi.length:Int))),(by first|rfl|(simp;done)|(simp [*];done)),H',⟨by have:=HJ1.out;have:=HK2.out;first|omega|exact Nat.le_refl _⟩,⟨by (with_reducible repeat (first|refine Q3 ?_ _|refine Q6 ?_|refine Q2 ?_ _));exact Z0.out⟩,⟨by repeat (first|(with_reducible first|exact HB.out|apply Q4|apply Q1|apply Qa|refine Q5 ?_ GV.out)|exact HB.out)⟩⟩
    replace c12:=Bool.eq_false_iff.mpr c12;subst c12
    have H1:(Qz.j2 k2 (Qi.length:Int) false Y0 false Qi Qn Ql)=some r:=by rw [if_neg (show ¬ (false=true) by decide)] at H;exact H
    clear H;have H:=H1;clear H1;have H':=Q0.mk H;clear H
    go_wp2
    go_meet
    case rel=>exact ⟨_,(false),(by first|rfl|(simp;done)|(simp [*];done)),H',⟨by have:=HJ1.out;have:=HK2.out;first|omega|exact Nat.le_refl _⟩,⟨by (with_reducible repeat (first|refine Q3 ?_ _|refine Q6 ?_|refine Q2 ?_ _));exact Z0.out⟩,⟨by repeat (first|(with_reducible first|exact HB.out|apply Q4|apply Q1|apply Qa|refine Q5 ?_ GV.out)|exact HB.out)⟩⟩
   clear qqy
   try clear c1
   try clear p2
   try clear c3
   try clear c6
   try clear c7
   try clear c7b0
   try clear c7b1
   try clear c7b2
   try clear c12
   try clear G6
   try clear G7
   try clear Gb
   try clear Gu
   try clear Gv
   try clear GG
   try clear KJ
   try clear KL
   try clear KM
   try clear JM
   try clear JN
   try clear G4
   try clear Gw
   try clear Gx
   try clear GH
   try clear KN
   try clear KO
   try clear KP
   try clear p2
   obtain ⟨kq,qfY,rfl,HA,Xj,Z0,HB⟩:=hcut
   cases kq with
   | zero=>exact absurd HA.out (by simp [Qz.j2])
   | succ qaC =>
    have H:=HA.out;clear HA;simp only [Qz.j2] at H
    by_cases c13:qfY=true
    ·
     subst c13
     have H1:(if 0≤Y0 then (if Y0<(Qi.length:Int) then ((Qo.f qaC ((Qm Qi Y0).f0) ((Qm Qi Y0).f1) ((Qm Qi Y0).f2) ((Qm Qi Y0).f3) ((Qm Qi Y0).f4)).bind fun qli=>(if qli=true then (if Y0<(Qn.length:Int) then ((Qv.f (rd Qn Y0) 0 100).bind fun t193=>(Qz.l0 qaC (Qi.length:Int) t193 (wrap64 (Y0+1)) Qi Qn Ql)) else (none)) else (Qz.l0 qaC (Qi.length:Int) false (wrap64 (Y0+1)) Qi Qn Ql))) else (none)) else (none))=some r:=by rw [if_pos rfl] at H;exact H
     clear H;have H:=H1;clear H1
     by_cases c14:0≤Y0
     ·
      rw [if_pos c14] at H;have c14b0:decide (0≤Y0)=true:=decide_eq_true c14;clear c14
      by_cases c15:Y0<(Qi.length:Int)
      ·
       rw [if_pos c15] at H;have c15b0:decide (Y0<(Qi.length:Int))=true:=decide_eq_true c15;clear c15;replace H:=Option.bind_eq_some_iff.mp H;obtain ⟨qli,qrG,H⟩:=H;replace H:(if qli=true then (if Y0<(Qn.length:Int) then ((Qv.f (rd Qn Y0) 0 100).bind fun t193=>(Qz.l0 qaC (Qi.length:Int) t193 (wrap64 (Y0+1)) Qi Qn Ql)) else (none)) else (Qz.l0 qaC (Qi.length:Int) false (wrap64 (Y0+1)) Qi Qn Ql))=some r:=H;have A16:=Q0.mk qrG;clear qrG
       by_cases c17:qli=true
       ·
        subst c17
        have H1:(if Y0<(Qn.length:Int) then ((Qv.f (rd Qn Y0) 0 100).bind fun t193=>(Qz.l0 qaC (Qi.length:Int) t193 (wrap64 (Y0+1)) Qi Qn Ql)) else (none))=some r:=by rw [if_pos rfl] at H;exact H
        clear H;have H:=H1;clear H1
        by_cases c18:Y0<(Qn.length:Int)
        ·
         rw [if_pos c18] at H;have c18b0:decide (Y0<(Qn.length:Int))=true:=decide_eq_true c18;clear c18;replace H:=Option.bind_eq_some_iff.mp H;obtain ⟨t193,qrH,H⟩:=H;replace H:(Qz.l0 qaC (Qi.length:Int) t193 (wrap64 (Y0+1)) Qi Qn Ql)=some r:=H;have A19:=Q0.mk qrH;clear qrH;have H':=Q0.mk H;clear H;have qa8:wc.cell? ⟨JL,0,none⟩=some (.slice QT Qi.length QF):=(Qb Z0.out 0).trans rfl;have qa9:wc.cell? ⟨JL,1,none⟩=some (.slice QR Qn.length QH):=(Qb Z0.out 1).trans rfl;have qba:wc.cell? ⟨JL,2,none⟩=some (.slice QV Ql.length QI):=(Qb Z0.out 2).trans rfl;have qbm:=Qc Z0.out 0;have qbn:=Qc Z0.out 1;have qbo:=Qc Z0.out 2;have qcr:0≤(Y0:Int):=of_decide_eq_true (by first|(with_reducible assumption)|assumption);have qcs:Y0<(Qi.length:Int):=of_decide_eq_true (by first|(with_reducible assumption)|assumption);obtain ⟨qjo,qhF,qhS,qhG,qhT,qhH,qhU,e190,Kz,KA,KB,KC,KD,qbA,qbw,qbB,qbx,qbC,qby⟩:=qhN ZU.out Y0 qcr qcs;cases e190;replace Kz:=(HB.out.cell (World.block_lt_of_cell? w _ Kz)).trans Kz;replace KA:=(HB.out.cell (World.block_lt_of_cell? w _ KA)).trans KA;replace KB:=(HB.out.cell (World.block_lt_of_cell? w _ KB)).trans KB;replace KC:=(HB.out.cell (World.block_lt_of_cell? w _ KC)).trans KC;replace KD:=(HB.out.cell (World.block_lt_of_cell? w _ KD)).trans KD;have qeM:=Q0.mk qbw;have qeJ:=Q0.mk qbA;clear qbw qbA;have qeN:=Q0.mk qbx;have qeK:=Q0.mk qbB;clear qbx qbB;have qeO:=Q0.mk qby;have qeL:=Q0.mk qbC;clear qby qbC;replace qcr:=eq_true qcr;replace qcs:=eq_true qcs
         go_wp2_with (first|((with_reducible refine QK (f:=76) rfl ?_);refine YP (some 44) rfl rfl Try.func76 (by kernel_rfl) rfl #[.agg #[.slice qhF ((Qm Qi Y0).f0).length qhS,.slice qhG ((Qm Qi Y0).f1).length qhT,.slice qhH ((Qm Qi Y0).f2).length qhU,.int .i64 ((Qm Qi Y0).f3),.int .i64 ((Qm Qi Y0).f4)]] rfl (by (try simp only [List.map_toArray,List.map_cons,List.map_nil]);first|done|rfl|(simp only [List.length_drop,List.length_take];rfl)) ?_;(with_reducible refine (Qo.calls qaC _ _ ((Qm Qi Y0).f0) _ _ ((Qm Qi Y0).f1) _ _ ((Qm Qi Y0).f2) ((Qm Qi Y0).f3) ((Qm Qi Y0).f4) true _ ?side1 ?side2 ?side3 ?side4 ?side5 ?side6 A16.out).mono ?_);(case side1=>repeat (first|exact (Kd.C_below qeM.out HB.out)|(with_reducible refine Kd.C_alloc ?_ _)|(with_reducible refine Kd.C_drewN ?_ _)|(with_reducible refine Kd.C_drew ?_)));(case side2=>exact qeJ.out);(case side3=>repeat (first|exact (Kd.C_below qeN.out HB.out)|(with_reducible refine Kd.C_alloc ?_ _)|(with_reducible refine Kd.C_drewN ?_ _)|(with_reducible refine Kd.C_drew ?_)));(case side4=>exact qeK.out);(case side5=>repeat (first|exact (Kd.C_below qeO.out HB.out)|(with_reducible refine Kd.C_alloc ?_ _)|(with_reducible refine Kd.C_drewN ?_ _)|(with_reducible refine Kd.C_drew ?_)));(case side6=>exact qeL.out);rintro e w21 ⟨rfl,hb⟩;refine ⟨_,rfl,?_⟩;have n0_:=Q0.mk (Qp (g:=JL) (by (with_reducible repeat (first|refine Q3 ?_ _|refine Q6 ?_|refine Q2 ?_ _));exact Z0.out) hb);have n1_:=Q0.mk (Qx (by repeat (first|(with_reducible first|exact HB.out|apply Q4|apply Q1|apply Qa|refine Q5 ?_ GV.out)|exact HB.out)) hb);clear Z0 HB;have Z0:=n0_;have HB:=n1_;clear n0_ n1_;(try clear hb);(try clear hb2);(try clear hk);(try clear hi);have XG:w21.cell? ⟨JL,0,none⟩=some (.slice (some qjo) Qi.length QF):=(Qb Z0.out 0).trans rfl;have XH:w21.cell? ⟨JL,1,none⟩=some (.slice QR Qn.length QH):=(Qb Z0.out 1).trans rfl;have XI:w21.cell? ⟨JL,2,none⟩=some (.slice QV Ql.length QI):=(Qb Z0.out 2).trans rfl;have XM:=Qc Z0.out 0;have XN:=Qc Z0.out 1;have XO:=Qc Z0.out 2;have qg6:0≤(Y0:Int):=of_decide_eq_true (by first|(with_reducible assumption)|assumption);have qg8:Y0<(Qn.length:Int):=of_decide_eq_true (by first|(with_reducible assumption)|assumption);obtain ⟨qDh,qBg,W9⟩:=Kd.at_int Jc.out Y0 qg6 qg8;cases qBg;replace W9:=(HB.out.cell (World.block_lt_of_cell? w _ W9)).trans W9;replace qg6:=eq_true qg6;replace qg8:=eq_true qg8)|(go_at_call 65;(with_reducible refine (Qv.calls (rd Qn Y0) 0 100 t193 _ A19.out).mono ?_);rintro e w' ⟨rfl,⟨nd,rfl⟩⟩))
         go_roundg qaC
         case measure=>have:=HJ1.out;have:=HK2.out;have:=Xj.out;omega
         case rel=>exact ⟨(t193),(wrap64 (Y0+1)),(by first|rfl|(simp;done)|(simp [*];done)),(by first|rfl|(simp;done)|(simp [*];done)),H',⟨by have:=HJ1.out;have:=HK2.out;have:=Xj.out;omega⟩,⟨by (with_reducible repeat (first|refine Q3 ?_ _|refine Q6 ?_|refine Q2 ?_ _));exact Z0.out⟩,⟨by repeat (first|(with_reducible first|exact HB.out|apply Q4|apply Q1|apply Qa|refine Q5 ?_ GV.out)|exact HB.out)⟩⟩
        rw [if_neg c18] at H
        exact absurd H (by simp)
       replace c17:=Bool.eq_false_iff.mpr c17;subst c17
       have H1:(Qz.l0 qaC (Qi.length:Int) false (wrap64 (Y0+1)) Qi Qn Ql)=some r:=by rw [if_neg (show ¬ (false=true) by decide)] at H;exact H
       clear H;have H:=H1;clear H1;have H':=Q0.mk H;clear H;have U4:wc.cell? ⟨JL,0,none⟩=some (.slice QT Qi.length QF):=(Qb Z0.out 0).trans rfl;have U5:wc.cell? ⟨JL,1,none⟩=some (.slice QR Qn.length QH):=(Qb Z0.out 1).trans rfl;have U6:wc.cell? ⟨JL,2,none⟩=some (.slice QV Ql.length QI):=(Qb Z0.out 2).trans rfl;have Ue:=Qc Z0.out 0;have Uf:=Qc Z0.out 1;have Ug:=Qc Z0.out 2;have qcr:0≤(Y0:Int):=of_decide_eq_true (by first|(with_reducible assumption)|assumption);have qcs:Y0<(Qi.length:Int):=of_decide_eq_true (by first|(with_reducible assumption)|assumption);obtain ⟨qjo,qhF,qhS,qhG,qhT,qhH,qhU,e190,Kz,KA,KB,KC,KD,qbA,qbw,qbB,qbx,qbC,qby⟩:=qhN ZU.out Y0 qcr qcs;cases e190;replace Kz:=(HB.out.cell (World.block_lt_of_cell? w _ Kz)).trans Kz;replace KA:=(HB.out.cell (World.block_lt_of_cell? w _ KA)).trans KA;replace KB:=(HB.out.cell (World.block_lt_of_cell? w _ KB)).trans KB;replace KC:=(HB.out.cell (World.block_lt_of_cell? w _ KC)).trans KC;replace KD:=(HB.out.cell (World.block_lt_of_cell? w _ KD)).trans KD;have qeM:=Q0.mk qbw;have qeJ:=Q0.mk qbA;clear qbw qbA;have qeN:=Q0.mk qbx;have qeK:=Q0.mk qbB;clear qbx qbB;have qeO:=Q0.mk qby;have qeL:=Q0.mk qbC;clear qby qbC;replace qcr:=eq_true qcr;replace qcs:=eq_true qcs
       go_wp2_with (first|((with_reducible refine QK (f:=76) rfl ?_);refine YP (some 44) rfl rfl Try.func76 (by kernel_rfl) rfl #[.agg #[.slice qhF ((Qm Qi Y0).f0).length qhS,.slice qhG ((Qm Qi Y0).f1).length qhT,.slice qhH ((Qm Qi Y0).f2).length qhU,.int .i64 ((Qm Qi Y0).f3),.int .i64 ((Qm Qi Y0).f4)]] rfl (by (try simp only [List.map_toArray,List.map_cons,List.map_nil]);first|done|rfl|(simp only [List.length_drop,List.length_take];rfl)) ?_;(with_reducible refine (Qo.calls qaC _ _ ((Qm Qi Y0).f0) _ _ ((Qm Qi Y0).f1) _ _ ((Qm Qi Y0).f2) ((Qm Qi Y0).f3) ((Qm Qi Y0).f4) false _ ?side1 ?side2 ?side3 ?side4 ?side5 ?side6 A16.out).mono ?_);(case side1=>repeat (first|exact (Kd.C_below qeM.out HB.out)|(with_reducible refine Kd.C_alloc ?_ _)|(with_reducible refine Kd.C_drewN ?_ _)|(with_reducible refine Kd.C_drew ?_)));(case side2=>exact qeJ.out);(case side3=>repeat (first|exact (Kd.C_below qeN.out HB.out)|(with_reducible refine Kd.C_alloc ?_ _)|(with_reducible refine Kd.C_drewN ?_ _)|(with_reducible refine Kd.C_drew ?_)));(case side4=>exact qeK.out);(case side5=>repeat (first|exact (Kd.C_below qeO.out HB.out)|(with_reducible refine Kd.C_alloc ?_ _)|(with_reducible refine Kd.C_drewN ?_ _)|(with_reducible refine Kd.C_drew ?_)));(case side6=>exact qeL.out);rintro e w24 ⟨rfl,hb⟩;refine ⟨_,rfl,?_⟩;have n0_:=Q0.mk (Qp (g:=JL) (by (with_reducible repeat (first|refine Q3 ?_ _|refine Q6 ?_|refine Q2 ?_ _));exact Z0.out) hb);have n1_:=Q0.mk (Qx (by repeat (first|(with_reducible first|exact HB.out|apply Q4|apply Q1|apply Qa|refine Q5 ?_ GV.out)|exact HB.out)) hb);clear Z0 HB;have Z0:=n0_;have HB:=n1_;clear n0_ n1_;(try clear hb);(try clear hb2);(try clear hk);(try clear hi)))
       go_roundg qaC
       case measure=>have:=HJ1.out;have:=HK2.out;have:=Xj.out;omega
       case rel=>exact ⟨(false),(wrap64 (Y0+1)),(by first|rfl|(simp;done)|(simp [*];done)),(by first|rfl|(simp;done)|(simp [*];done)),H',⟨by have:=HJ1.out;have:=HK2.out;have:=Xj.out;omega⟩,⟨by (with_reducible repeat (first|refine Q3 ?_ _|refine Q6 ?_|refine Q2 ?_ _));exact Z0.out⟩,⟨by repeat (first|(with_reducible first|exact HB.out|apply Q4|apply Q1|apply Qa|refine Q5 ?_ GV.out)|exact HB.out)⟩⟩
      rw [if_neg c15] at H
      exact absurd H (by simp)
     rw [if_neg c14] at H
     exact absurd H (by simp)
    replace c13:=Bool.eq_false_iff.mpr c13;subst c13
    have H1:(Qz.l1 qaC (Qi.length:Int) O2 Ql (Ql.length:Int) 0 Qi Qn Ql)=some r:=by rw [if_neg (show ¬ (false=true) by decide)] at H;exact H
    clear H;have H:=H1;clear H1;have H':=Q0.mk H;clear H;have XJ:wc.cell? ⟨JL,0,none⟩=some (.slice QT Qi.length QF):=(Qb Z0.out 0).trans rfl;have XK:wc.cell? ⟨JL,1,none⟩=some (.slice QR Qn.length QH):=(Qb Z0.out 1).trans rfl;have XL:wc.cell? ⟨JL,2,none⟩=some (.slice QV Ql.length QI):=(Qb Z0.out 2).trans rfl;have XP:=Qc Z0.out 0;have XQ:=Qc Z0.out 1;have XR:=Qc Z0.out 2
    go_wp2
    go_loopg [4,56] qaC (fun kq v4 v56 w' => ∃ (qnd:Bool) (YF:Int),v4 = .bool qnd∧v56 = .int .i64 YF∧Q0 (Qz.l1 kq (Qi.length:Int) qnd Ql (Ql.length:Int) YF Qi Qn Ql=some r)∧Q0 (kq≤qaC)∧Q0 (w'.heap[JL]? = some (.cells #[(.slice QT Qi.length QF),(.slice QR Qn.length QH),(.slice QV Ql.length QI)] 47 (0,0)))∧Q0 (Below w.heap.size w w'))
    case atStart=>exact ⟨(O2),(0),(by first|rfl|(simp;done)|(simp [*];done)),(by first|rfl|(simp;done)|(simp [*];done)),H',⟨Nat.le_refl _⟩,⟨by (with_reducible repeat (first|refine Q3 ?_ _|refine Q6 ?_|refine Q2 ?_ _));exact Z0.out⟩,⟨by repeat (first|(with_reducible first|exact HB.out|apply Q4|apply Q1|apply Qa|refine Q5 ?_ GV.out)|exact HB.out)⟩⟩
    clear H';(try clear c1);(try clear p1);(try clear q1);(try clear hx1);(try clear p2);(try clear c3);(try clear c6);(try clear p6);(try clear c7);(try clear c7b0);(try clear c7b1);(try clear c7b2);(try clear c12);(try clear c13);(try clear c14);(try clear c14b0);(try clear c15);(try clear c15b0);(try clear c17);(try clear c18);(try clear c18b0);(try clear c19);(try clear p19);(try clear q19);(try clear qoH);(try clear G6);(try clear G7);(try clear Gb);(try clear qa8);(try clear qa9);(try clear qba);(try clear XG);(try clear XH);(try clear XI);(try clear U4);(try clear U5);(try clear U6);(try clear XJ);(try clear XK);(try clear XL);(try clear Gu);(try clear Gv);(try clear GG);(try clear KJ);(try clear KL);(try clear KM);(try clear JM);(try clear JN);(try clear G4);(try clear qbm);(try clear qbn);(try clear qbo);(try clear XM);(try clear XN);(try clear XO);(try clear Ue);(try clear Uf);(try clear Ug);(try clear XP);(try clear XQ);(try clear XR);(try clear Gw);(try clear Gx);(try clear GH);(try clear KN);(try clear KO);(try clear KP);(try clear Kz);(try clear KA);(try clear KB);(try clear KC);(try clear KD);(try clear W9);(try clear qcr);(try clear qg6);(try clear p2);(try clear qcs);(try clear qg8);obtain ⟨qnd,YF,rfl,rfl,HA,HK4,Z0,HB⟩:=hrel
    cases gk with
    | zero=>exact absurd HA.out (by simp [Qz.l1])
    | succ k4 =>
     have H:=HA.out;clear HA;simp only [Qz.l1] at H
     by_cases c26:YF<(Ql.length:Int)
     ·
      rw [if_pos c26] at H;have c26b0:decide (YF<(Ql.length:Int))=true:=decide_eq_true c26;clear c26
      by_cases c27:0≤YF
      ·
       rw [if_pos c27] at H;have c27b0:decide (0≤YF)=true:=decide_eq_true c27;clear c27
       by_cases c28:YF<(Ql.length:Int)
       ·
        rw [if_pos c28] at H;have c28b0:decide (YF<(Ql.length:Int))=true:=decide_eq_true c28;clear c28;have qqB:=Q0.mk H;clear H;have qin:0≤(YF:Int):=of_decide_eq_true (by first|(with_reducible assumption)|assumption);have qiE:YF<(Ql.length:Int):=of_decide_eq_true (by first|(with_reducible assumption)|assumption);obtain ⟨qew,qAV,qA7,qBh,X2,qka,qj1⟩:=ql3 Jg.out YF qin qiE;cases qBh;replace X2:=(HB.out.cell (World.block_lt_of_cell? w _ X2)).trans X2;have qnq:=Q0.mk qj1;have qvf:=Q0.mk qka;clear qj1 qka;replace qin:=eq_true qin;replace qiE:=eq_true qiE
        go_upto_region 10 with (fail)
        go_cut [4] (fun v4 wc => ∃ (kq:Nat) (qkx:Bool),v4 = .bool qkx∧Q0 (Qz.j4 kq (Qi.length:Int) qkx (QU Ql YF) Ql (Ql.length:Int) YF Qi Qn Ql=some r)∧Q0 (kq≤k4)∧Q0 (wc.heap[JL]? = some (.cells #[(.slice QT Qi.length QF),(.slice QR Qn.length QH),(.slice (some qew) Ql.length QI)] 47 (0,0)))∧Q0 (Below w.heap.size w wc))
        case first =>
         have H:=qqB.out;clear qqB
         by_cases c30:qnd=true
         ·
          subst c30
          have H1:(Qz.j4 k4 (Qi.length:Int) (((QU Ql YF).length:Int)==(Qi.length:Int)) (QU Ql YF) Ql (Ql.length:Int) YF Qi Qn Ql)=some r:=by rw [if_pos rfl] at H;exact H
          clear H;have H:=H1;clear H1;have H':=Q0.mk H;clear H
          go_wp2
          go_meet
          case rel=>exact ⟨_,((((QU Ql YF).length:Int)==(Qi.length:Int))),(by first|rfl|(simp;done)|(simp [*];done)),H',⟨by have:=HJ1.out;have:=HK2.out;have:=Xj.out;have:=HK4.out;first|omega|exact Nat.le_refl _⟩,⟨by (with_reducible repeat (first|refine Q3 ?_ _|refine Q6 ?_|refine Q2 ?_ _));exact Z0.out⟩,⟨by repeat (first|(with_reducible first|exact HB.out|apply Q4|apply Q1|apply Qa|refine Q5 ?_ GV.out)|exact HB.out)⟩⟩
         replace c30:=Bool.eq_false_iff.mpr c30;subst c30
         have H1:(Qz.j4 k4 (Qi.length:Int) false (QU Ql YF) Ql (Ql.length:Int) YF Qi Qn Ql)=some r:=by rw [if_neg (show ¬ (false=true) by decide)] at H;exact H
         clear H;have H:=H1;clear H1;have H':=Q0.mk H;clear H
         go_wp2
         go_meet
         case rel=>exact ⟨_,(false),(by first|rfl|(simp;done)|(simp [*];done)),H',⟨by have:=HJ1.out;have:=HK2.out;have:=Xj.out;have:=HK4.out;first|omega|exact Nat.le_refl _⟩,⟨by (with_reducible repeat (first|refine Q3 ?_ _|refine Q6 ?_|refine Q2 ?_ _));exact Z0.out⟩,⟨by repeat (first|(with_reducible first|exact HB.out|apply Q4|apply Q1|apply Qa|refine Q5 ?_ GV.out)|exact HB.out)⟩⟩
        clear qqB;(try clear c1);(try clear p1);(try clear q1);(try clear hx1);(try clear c2);(try clear p2);(try clear c3);(try clear c6);(try clear p6);(try clear c7);(try clear c7b0);(try clear c7b1);(try clear c7b2);(try clear c12);(try clear c13);(try clear c14);(try clear c14b0);(try clear c15);(try clear c15b0);(try clear c17);(try clear c18);(try clear c18b0);(try clear c19);(try clear p19);(try clear q19);(try clear qoH);(try clear c26);(try clear c26b0);(try clear c27);(try clear c27b0);(try clear c28);(try clear c28b0);(try clear c30);(try clear G6);(try clear G7);(try clear Gb);(try clear qa8);(try clear qa9);(try clear qba);(try clear XG);(try clear XH);(try clear XI);(try clear U4);(try clear U5);(try clear U6);(try clear XJ);(try clear XK);(try clear XL);(try clear Gu);(try clear Gv);(try clear GG);(try clear KJ);(try clear KL);(try clear KM);(try clear JM);(try clear JN);(try clear G4);(try clear qbm);(try clear qbn);(try clear qbo);(try clear XM);(try clear XN);(try clear XO);(try clear Ue);(try clear Uf);(try clear Ug);(try clear XP);(try clear XQ);(try clear XR);(try clear Gw);(try clear Gx);(try clear GH);(try clear KN);(try clear KO);(try clear KP);(try clear Kz);(try clear KA);(try clear KB);(try clear KC);(try clear KD);(try clear W9);(try clear X2);(try clear p1);(try clear p19);(try clear qcr);(try clear qg6);(try clear qin);(try clear p2);(try clear p6);(try clear q1);(try clear q19);(try clear qcs);(try clear qg8);(try clear qiE);obtain ⟨kq,qkx,rfl,HA,qdx,Z0,HB⟩:=hcut
        cases kq with
        | zero=>exact absurd HA.out (by simp [Qz.j4])
        | succ qu8 =>
         have H:=HA.out;clear HA;simp only [Qz.j4] at H;have H':=Q0.mk H;clear H
         go_wp2
         go_loopg [4,69] qu8 (fun kq v4 v69 w' => ∃ (qne:Bool) (Zt:Int),v4 = .bool qne∧v69 = .int .i64 Zt∧Q0 (Qz.l2 kq (Qi.length:Int) qne Ql (Ql.length:Int) YF (QU Ql YF) ((QU Ql YF).length:Int) Zt Qi Qn Ql=some r)∧Q0 (kq≤qu8)∧Q0 (w'.heap[JL]? = some (.cells #[(.slice QT Qi.length QF),(.slice QR Qn.length QH),(.slice (some qew) Ql.length QI)] 47 (0,0)))∧Q0 (Below w.heap.size w w'))
         case atStart=>exact ⟨(qkx),(0),(by first|rfl|(simp;done)|(simp [*];done)),(by first|rfl|(simp;done)|(simp [*];done)),H',⟨Nat.le_refl _⟩,⟨by (with_reducible repeat (first|refine Q3 ?_ _|refine Q6 ?_|refine Q2 ?_ _));exact Z0.out⟩,⟨by repeat (first|(with_reducible first|exact HB.out|apply Q4|apply Q1|apply Qa|refine Q5 ?_ GV.out)|exact HB.out)⟩⟩
         clear H';(try clear c1);(try clear p1);(try clear q1);(try clear hx1);(try clear c2);(try clear p2);(try clear c3);(try clear c6);(try clear p6);(try clear c7);(try clear c7b0);(try clear c7b1);(try clear c7b2);(try clear c12);(try clear c13);(try clear c14);(try clear c14b0);(try clear c15);(try clear c15b0);(try clear c17);(try clear c18);(try clear c18b0);(try clear c19);(try clear p19);(try clear q19);(try clear qoH);(try clear c26);(try clear c26b0);(try clear c27);(try clear c27b0);(try clear c28);(try clear c28b0);(try clear c30);(try clear G6);(try clear G7);(try clear Gb);(try clear qa8);(try clear qa9);(try clear qba);(try clear XG);(try clear XH);(try clear XI);(try clear U4);(try clear U5);(try clear U6);(try clear XJ);(try clear XK);(try clear XL);(try clear Gu);(try clear Gv);(try clear GG);(try clear KJ);(try clear KL);(try clear KM);(try clear JM);(try clear JN);(try clear G4);(try clear qbm);(try clear qbn);(try clear qbo);(try clear XM);(try clear XN);(try clear XO);(try clear Ue);(try clear Uf);(try clear Ug);(try clear XP);(try clear XQ);(try clear XR);(try clear Gw);(try clear Gx);(try clear GH);(try clear KN);(try clear KO);(try clear KP);(try clear Kz);(try clear KA);(try clear KB);(try clear KC);(try clear KD);(try clear W9);(try clear X2);(try clear p1);(try clear p19);(try clear qcr);(try clear qg6);(try clear qin);(try clear p2);(try clear p6);(try clear q1);(try clear q19);(try clear qcs);(try clear qg8);(try clear qiE);obtain ⟨qne,Zt,rfl,rfl,HA,HK6,Z0,HB⟩:=hrel
         cases gk with
         | zero=>exact absurd HA.out (by simp [Qz.l2])
         | succ k6 =>
          have H:=HA.out;clear HA;simp only [Qz.l2] at H
          by_cases c31:Zt<((QU Ql YF).length:Int)
          ·
           rw [if_pos c31] at H;have c31b0:decide (Zt<((QU Ql YF).length:Int))=true:=decide_eq_true c31;clear c31
           by_cases c32:0≤Zt
           ·
            rw [if_pos c32] at H;have c32b0:decide (0≤Zt)=true:=decide_eq_true c32;clear c32
            by_cases c33:Zt<((QU Ql YF).length:Int)
            ·
             rw [if_pos c33] at H;have c33b0:decide (Zt<((QU Ql YF).length:Int))=true:=decide_eq_true c33;clear c33;have qqD:=Q0.mk H;clear H;have qmO:0≤(Zt:Int):=of_decide_eq_true (by first|(with_reducible assumption)|assumption);have qmV:Zt<((QU Ql YF).length:Int):=of_decide_eq_true (by first|(with_reducible assumption)|assumption);obtain ⟨qDi,qAW,qA8,e195,qbF,qkb,qj2⟩:=qjr qnq.out Zt qmO qmV;cases e195;replace qbF:=(HB.out.cell (World.block_lt_of_cell? w _ qbF)).trans qbF;have qjl:=Q0.mk qj2;have qvg:=Q0.mk qkb;clear qj2 qkb;replace qmO:=eq_true qmO;replace qmV:=eq_true qmV
             go_upto_region 14 with (fail)
             go_cut [4] (fun v4 wc => ∃ (kq:Nat) (qky:Bool),v4 = .bool qky∧Q0 (Qz.j6 kq (Qi.length:Int) qky (Yq (QU Ql YF) Zt) Ql (Ql.length:Int) YF (QU Ql YF) ((QU Ql YF).length:Int) Zt Qi Qn Ql=some r)∧Q0 (kq≤k6)∧Q0 (wc.heap[JL]? = some (.cells #[(.slice QT Qi.length QF),(.slice QR Qn.length QH),(.slice (some qew) Ql.length QI)] 47 (0,0)))∧Q0 (Below w.heap.size w wc))
             case first =>
              have H:=qqD.out;clear qqD
              by_cases c35:qne=true
              ·
               subst c35
               have H1:((Qv.f ((Yq (QU Ql YF) Zt).length:Int) 1 10).bind fun t196=>(if t196=true then (if 0<(Ql.length:Int) then (if 0<((QU Ql 0).length:Int) then (Qz.j6 k6 (Qi.length:Int) (((Yq (QU Ql YF) Zt).length:Int)==((Yq (QU Ql 0) 0).length:Int)) (Yq (QU Ql YF) Zt) Ql (Ql.length:Int) YF (QU Ql YF) ((QU Ql YF).length:Int) Zt Qi Qn Ql) else (none)) else (none)) else (Qz.j6 k6 (Qi.length:Int) false (Yq (QU Ql YF) Zt) Ql (Ql.length:Int) YF (QU Ql YF) ((QU Ql YF).length:Int) Zt Qi Qn Ql)))=some r:=by rw [if_pos rfl] at H;exact H
               clear H;have H:=H1;clear H1;replace H:=Option.bind_eq_some_iff.mp H;obtain ⟨t196,qrP,H⟩:=H;replace H:(if t196=true then (if 0<(Ql.length:Int) then (if 0<((QU Ql 0).length:Int) then (Qz.j6 k6 (Qi.length:Int) (((Yq (QU Ql YF) Zt).length:Int)==((Yq (QU Ql 0) 0).length:Int)) (Yq (QU Ql YF) Zt) Ql (Ql.length:Int) YF (QU Ql YF) ((QU Ql YF).length:Int) Zt Qi Qn Ql) else (none)) else (none)) else (Qz.j6 k6 (Qi.length:Int) false (Yq (QU Ql YF) Zt) Ql (Ql.length:Int) YF (QU Ql YF) ((QU Ql YF).length:Int) Zt Qi Qn Ql))=some r:=H;have A36:=Q0.mk qrP;clear qrP
               by_cases c37:t196=true
               ·
                subst c37
                have H1:(if 0<(Ql.length:Int) then (if 0<((QU Ql 0).length:Int) then (Qz.j6 k6 (Qi.length:Int) (((Yq (QU Ql YF) Zt).length:Int)==((Yq (QU Ql 0) 0).length:Int)) (Yq (QU Ql YF) Zt) Ql (Ql.length:Int) YF (QU Ql YF) ((QU Ql YF).length:Int) Zt Qi Qn Ql) else (none)) else (none))=some r:=by rw [if_pos rfl] at H;exact H
                clear H;have H:=H1;clear H1
                by_cases c38:0<(Ql.length:Int)
                ·
                 rw [if_pos c38] at H;have c38b0:decide (0<(Ql.length:Int))=true:=decide_eq_true c38;have c38b1:decide (0<Ql.length)=true:=decide_eq_true (by omega);clear c38
                 (first|rw [c38b0]|(simp only [Qj,Qk];rw [c38b0])|skip)
                 by_cases c39:0<((QU Ql 0).length:Int)
                 ·
                  rw [if_pos c39] at H;have c39b0:decide (0<((QU Ql 0).length:Int))=true:=decide_eq_true c39;have c39b1:decide (0<(QU Ql 0).length)=true:=decide_eq_true (by omega);clear c39;have H':=Q0.mk H;clear H
                  go_wp2_with (first|(go_at_call 65;(with_reducible refine (Qv.calls ((Yq (QU Ql YF) Zt).length:Int) 1 10 true _ A36.out).mono ?_);rintro e w' ⟨rfl,⟨nd,rfl⟩⟩;have qcO:wr.cell? ⟨JL,0,none⟩=some (.slice QT Qi.length QF):=(Qb Z0.out 0).trans rfl;have qcP:wr.cell? ⟨JL,1,none⟩=some (.slice QR Qn.length QH):=(Qb Z0.out 1).trans rfl;have qcQ:wr.cell? ⟨JL,2,none⟩=some (.slice (some qew) Ql.length QI):=(Qb Z0.out 2).trans rfl;have qdb:=Qc Z0.out 0;have qdc:=Qc Z0.out 1;have qdd:=Qc Z0.out 2;have qmP:0≤(0:Int):=(by omega);have qmW:0<(Ql.length:Int):=of_decide_eq_true (by first|(with_reducible assumption)|assumption);obtain ⟨qsE,qAX,qA9,e197,X3,qkc,qj3⟩:=ql3 Jg.out 0 qmP qmW;obtain rfl:qew=qsE:=(by injection e197);have qFi:(0<Ql.length)=True:=eq_true (by omega);(try rw [show ((0:Int)).toNat=0 from rfl] at X3);(try rw [Addr.add_zero'] at X3);replace X3:=(HB.out.cell (World.block_lt_of_cell? w _ X3)).trans X3;have qnr:=Q0.mk qj3;have qvh:=Q0.mk qkc;clear qj3 qkc;replace qmP:=eq_true qmP;replace qmW:=eq_true qmW;have qmQ:0≤(0:Int):=(by omega);have qmX:0<((QU Ql 0).length:Int):=of_decide_eq_true (by first|(with_reducible assumption)|assumption);obtain ⟨qDj,qAY,qBa,qBi,X4,qkd,qj4⟩:=qjr qnr.out 0 qmQ qmX;cases qBi;have qFj:(0<(QU Ql 0).length)=True:=eq_true (by omega);(try rw [show ((0:Int)).toNat=0 from rfl] at X4);(try rw [Addr.add_zero'] at X4);replace X4:=(HB.out.cell (World.block_lt_of_cell? w _ X4)).trans X4;have qvk:=Q0.mk qj4;have qvi:=Q0.mk qkd;clear qj4 qkd;replace qmQ:=eq_true qmQ;replace qmX:=eq_true qmX))
                  go_meet
                  case rel=>exact ⟨_,((((Yq (QU Ql YF) Zt).length:Int)==((Yq (QU Ql 0) 0).length:Int))),(by first|rfl|(simp;done)|(simp [*];done)),H',⟨by have:=HJ1.out;have:=HK2.out;have:=Xj.out;have:=HK4.out;have:=qdx.out;have:=HK6.out;first|omega|exact Nat.le_refl _⟩,⟨by (with_reducible repeat (first|refine Q3 ?_ _|refine Q6 ?_|refine Q2 ?_ _));exact Z0.out⟩,⟨by repeat (first|(with_reducible first|exact HB.out|apply Q4|apply Q1|apply Qa|refine Q5 ?_ GV.out)|exact HB.out)⟩⟩
                 rw [if_neg c39] at H
                 exact absurd H (by simp)
                rw [if_neg c38] at H
                exact absurd H (by simp)
               replace c37:=Bool.eq_false_iff.mpr c37;subst c37
               have H1:(Qz.j6 k6 (Qi.length:Int) false (Yq (QU Ql YF) Zt) Ql (Ql.length:Int) YF (QU Ql YF) ((QU Ql YF).length:Int) Zt Qi Qn Ql)=some r:=by rw [if_neg (show ¬ (false=true) by decide)] at H;exact H
               clear H;have H:=H1;clear H1;have H':=Q0.mk H;clear H
               go_wp2_with (first|(go_at_call 65;(with_reducible refine (Qv.calls ((Yq (QU Ql YF) Zt).length:Int) 1 10 false _ A36.out).mono ?_);rintro e w' ⟨rfl,⟨nd,rfl⟩⟩))
               go_meet
               case rel=>exact ⟨_,(false),(by first|rfl|(simp;done)|(simp [*];done)),H',⟨by have:=HJ1.out;have:=HK2.out;have:=Xj.out;have:=HK4.out;have:=qdx.out;have:=HK6.out;first|omega|exact Nat.le_refl _⟩,⟨by (with_reducible repeat (first|refine Q3 ?_ _|refine Q6 ?_|refine Q2 ?_ _));exact Z0.out⟩,⟨by repeat (first|(with_reducible first|exact HB.out|apply Q4|apply Q1|apply Qa|refine Q5 ?_ GV.out)|exact HB.out)⟩⟩
              replace c35:=Bool.eq_false_iff.mpr c35;subst c35
              have H1:(Qz.j6 k6 (Qi.length:Int) false (Yq (QU Ql YF) Zt) Ql (Ql.length:Int) YF (QU Ql YF) ((QU Ql YF).length:Int) Zt Qi Qn Ql)=some r:=by rw [if_neg (show ¬ (false=true) by decide)] at H;exact H
              clear H;have H:=H1;clear H1;have H':=Q0.mk H;clear H
              go_wp2
              go_meet
              case rel=>exact ⟨_,(false),(by first|rfl|(simp;done)|(simp [*];done)),H',⟨by have:=HJ1.out;have:=HK2.out;have:=Xj.out;have:=HK4.out;have:=qdx.out;have:=HK6.out;first|omega|exact Nat.le_refl _⟩,⟨by (with_reducible repeat (first|refine Q3 ?_ _|refine Q6 ?_|refine Q2 ?_ _));exact Z0.out⟩,⟨by repeat (first|(with_reducible first|exact HB.out|apply Q4|apply Q1|apply Qa|refine Q5 ?_ GV.out)|exact HB.out)⟩⟩
             clear qqD;(try clear c1);(try clear p1);(try clear q1);(try clear hx1);(try clear qi1);(try clear c2);(try clear p2);(try clear c3);(try clear c6);(try clear p6);(try clear c7);(try clear c7b0);(try clear c7b1);(try clear c7b2);(try clear c12);(try clear c13);(try clear c14);(try clear c14b0);(try clear c15);(try clear c15b0);(try clear c17);(try clear c18);(try clear c18b0);(try clear c19);(try clear p19);(try clear q19);(try clear qoH);(try clear qCq);(try clear c26);(try clear c26b0);(try clear c27);(try clear c27b0);(try clear c28);(try clear c28b0);(try clear c30);(try clear c31);(try clear c31b0);(try clear c32);(try clear c32b0);(try clear c33);(try clear c33b0);(try clear c35);(try clear c37);(try clear c38);(try clear c38b0);(try clear c38b1);(try clear c39);(try clear c39b0);(try clear c39b1);(try clear G6);(try clear G7);(try clear Gb);(try clear qa8);(try clear qa9);(try clear qba);(try clear XG);(try clear XH);(try clear XI);(try clear U4);(try clear U5);(try clear U6);(try clear XJ);(try clear XK);(try clear XL);(try clear qcO);(try clear qcP);(try clear qcQ);(try clear Gu);(try clear Gv);(try clear GG);(try clear KJ);(try clear KL);(try clear KM);(try clear JM);(try clear JN);(try clear G4);(try clear qbm);(try clear qbn);(try clear qbo);(try clear XM);(try clear XN);(try clear XO);(try clear Ue);(try clear Uf);(try clear Ug);(try clear XP);(try clear XQ);(try clear XR);(try clear qdb);(try clear qdc);(try clear qdd);(try clear Gw);(try clear Gx);(try clear GH);(try clear KN);(try clear KO);(try clear KP);(try clear Kz);(try clear KA);(try clear KB);(try clear KC);(try clear KD);(try clear W9);(try clear X2);(try clear qbF);(try clear X3);(try clear X4);(try clear p1);(try clear p19);(try clear qcr);(try clear qg6);(try clear qin);(try clear qmO);(try clear qmP);(try clear qmQ);(try clear p2);(try clear p6);(try clear q1);(try clear q19);(try clear qcs);(try clear qg8);(try clear qiE);(try clear qmV);(try clear qmW);(try clear qmX);obtain ⟨kq,qky,rfl,HA,qkK,Z0,HB⟩:=hcut
             cases kq with
             | zero=>exact absurd HA.out (by simp [Qz.j6])
             | succ qu9 =>
              have H:=HA.out;clear HA;simp only [Qz.j6] at H;have H':=Q0.mk H;clear H
              go_wp2
              go_loopg [4,93] qu9 (fun kq v4 v93 w' => ∃ (qnf:Bool) (Kn:Int),v4 = .bool qnf∧v93 = .int .i64 Kn∧Q0 (Qz.l3 kq (Qi.length:Int) qnf Ql (Ql.length:Int) YF (QU Ql YF) ((QU Ql YF).length:Int) Zt (Yq (QU Ql YF) Zt) ((Yq (QU Ql YF) Zt).length:Int) Kn Qi Qn Ql=some r)∧Q0 (kq≤qu9)∧Q0 (w'.heap[JL]? = some (.cells #[(.slice QT Qi.length QF),(.slice QR Qn.length QH),(.slice (some qew) Ql.length QI)] 47 (0,0)))∧Q0 (Below w.heap.size w w'))
              case atStart=>exact ⟨(qky),(0),(by first|rfl|(simp;done)|(simp [*];done)),(by first|rfl|(simp;done)|(simp [*];done)),H',⟨Nat.le_refl _⟩,⟨by (with_reducible repeat (first|refine Q3 ?_ _|refine Q6 ?_|refine Q2 ?_ _));exact Z0.out⟩,⟨by repeat (first|(with_reducible first|exact HB.out|apply Q4|apply Q1|apply Qa|refine Q5 ?_ GV.out)|exact HB.out)⟩⟩
              clear H';(try clear c1);(try clear p1);(try clear q1);(try clear hx1);(try clear qi1);(try clear c2);(try clear p2);(try clear c3);(try clear c6);(try clear p6);(try clear c7);(try clear c7b0);(try clear c7b1);(try clear c7b2);(try clear c12);(try clear c13);(try clear c14);(try clear c14b0);(try clear c15);(try clear c15b0);(try clear c17);(try clear c18);(try clear c18b0);(try clear c19);(try clear p19);(try clear q19);(try clear qoH);(try clear qCq);(try clear c26);(try clear c26b0);(try clear c27);(try clear c27b0);(try clear c28);(try clear c28b0);(try clear c30);(try clear c31);(try clear c31b0);(try clear c32);(try clear c32b0);(try clear c33);(try clear c33b0);(try clear c35);(try clear c37);(try clear c38);(try clear c38b0);(try clear c38b1);(try clear c39);(try clear c39b0);(try clear c39b1);(try clear G6);(try clear G7);(try clear Gb);(try clear qa8);(try clear qa9);(try clear qba);(try clear XG);(try clear XH);(try clear XI);(try clear U4);(try clear U5);(try clear U6);(try clear XJ);(try clear XK);(try clear XL);(try clear qcO);(try clear qcP);(try clear qcQ);(try clear Gu);(try clear Gv);(try clear GG);(try clear KJ);(try clear KL);(try clear KM);(try clear JM);(try clear JN);(try clear G4);(try clear qbm);(try clear qbn);(try clear qbo);(try clear XM);(try clear XN);(try clear XO);(try clear Ue);(try clear Uf);(try clear Ug);(try clear XP);(try clear XQ);(try clear XR);(try clear qdb);(try clear qdc);(try clear qdd);(try clear Gw);(try clear Gx);(try clear GH);(try clear KN);(try clear KO);(try clear KP);(try clear Kz);(try clear KA);(try clear KB);(try clear KC);(try clear KD);(try clear W9);(try clear X2);(try clear qbF);(try clear X3);(try clear X4);(try clear p1);(try clear p19);(try clear qcr);(try clear qg6);(try clear qin);(try clear qmO);(try clear qmP);(try clear qmQ);(try clear p2);(try clear p6);(try clear q1);(try clear q19);(try clear qcs);(try clear qg8);(try clear qiE);(try clear qmV);(try clear qmW);(try clear qmX);obtain ⟨qnf,Kn,rfl,rfl,HA,HK8,Z0,HB⟩:=hrel
              cases gk with
              | zero=>exact absurd HA.out (by simp [Qz.l3])
              | succ k8 =>
               have H:=HA.out;clear HA;simp only [Qz.l3] at H
               by_cases c41:Kn<((Yq (QU Ql YF) Zt).length:Int)
               ·
                rw [if_pos c41] at H;have c41b0:decide (Kn<((Yq (QU Ql YF) Zt).length:Int))=true:=decide_eq_true c41;clear c41
                by_cases c42:0≤Kn
                ·
                 rw [if_pos c42] at H;have c42b0:decide (0≤Kn)=true:=decide_eq_true c42;clear c42
                 by_cases c43:Kn<((Yq (QU Ql YF) Zt).length:Int)
                 ·
                  rw [if_pos c43] at H;have c43b0:decide (Kn<((Yq (QU Ql YF) Zt).length:Int))=true:=decide_eq_true c43;clear c43
                  by_cases c44:qnf=true
                  ·
                   subst c44
                   have H1:((Qv.f (rd (Yq (QU Ql YF) Zt) Kn) 0 100000).bind fun qiS=>(Qz.l3 k8 (Qi.length:Int) qiS Ql (Ql.length:Int) YF (QU Ql YF) ((QU Ql YF).length:Int) Zt (Yq (QU Ql YF) Zt) ((Yq (QU Ql YF) Zt).length:Int) (wrap64 (Kn+1)) Qi Qn Ql))=some r:=by rw [if_pos rfl] at H;exact H
                   clear H;have H:=H1;clear H1;replace H:=Option.bind_eq_some_iff.mp H;obtain ⟨qiS,qlC,H⟩:=H;replace H:(Qz.l3 k8 (Qi.length:Int) qiS Ql (Ql.length:Int) YF (QU Ql YF) ((QU Ql YF).length:Int) Zt (Yq (QU Ql YF) Zt) ((Yq (QU Ql YF) Zt).length:Int) (wrap64 (Kn+1)) Qi Qn Ql)=some r:=H;have A45:=Q0.mk qlC;clear qlC;have H':=Q0.mk H;clear H;have qio:0≤(Kn:Int):=of_decide_eq_true (by first|(with_reducible assumption)|assumption);have qiF:Kn<((Yq (QU Ql YF) Zt).length:Int):=of_decide_eq_true (by first|(with_reducible assumption)|assumption);obtain ⟨qsF,e199,X5⟩:=Kd.at_int qjl.out Kn qio qiF;cases e199;replace X5:=(HB.out.cell (World.block_lt_of_cell? w _ X5)).trans X5;replace qio:=eq_true qio;replace qiF:=eq_true qiF
                   go_wp2_with (first|(go_at_call 65;(with_reducible refine (Qv.calls (rd (Yq (QU Ql YF) Zt) Kn) 0 100000 qiS _ A45.out).mono ?_);rintro e w' ⟨rfl,⟨nd,rfl⟩⟩))
                   go_roundg k8
                   case measure=>have:=HJ1.out;have:=HK2.out;have:=Xj.out;have:=HK4.out;have:=qdx.out;have:=HK6.out;have:=qkK.out;have:=HK8.out;omega
                   case rel=>exact ⟨(qiS),(wrap64 (Kn+1)),(by first|rfl|(simp;done)|(simp [*];done)),(by first|rfl|(simp;done)|(simp [*];done)),H',⟨by have:=HJ1.out;have:=HK2.out;have:=Xj.out;have:=HK4.out;have:=qdx.out;have:=HK6.out;have:=qkK.out;have:=HK8.out;omega⟩,⟨by (with_reducible repeat (first|refine Q3 ?_ _|refine Q6 ?_|refine Q2 ?_ _));exact Z0.out⟩,⟨by repeat (first|(with_reducible first|exact HB.out|apply Q4|apply Q1|apply Qa|refine Q5 ?_ GV.out)|exact HB.out)⟩⟩
                  replace c44:=Bool.eq_false_iff.mpr c44;subst c44
                  have H1:(Qz.l3 k8 (Qi.length:Int) false Ql (Ql.length:Int) YF (QU Ql YF) ((QU Ql YF).length:Int) Zt (Yq (QU Ql YF) Zt) ((Yq (QU Ql YF) Zt).length:Int) (wrap64 (Kn+1)) Qi Qn Ql)=some r:=by rw [if_neg (show ¬ (false=true) by decide)] at H;exact H
                  clear H;have H:=H1;clear H1;have H':=Q0.mk H;clear H;have qio:0≤(Kn:Int):=of_decide_eq_true (by first|(with_reducible assumption)|assumption);have qiF:Kn<((Yq (QU Ql YF) Zt).length:Int):=of_decide_eq_true (by first|(with_reducible assumption)|assumption);obtain ⟨qsF,e199,X5⟩:=Kd.at_int qjl.out Kn qio qiF;cases e199;replace X5:=(HB.out.cell (World.block_lt_of_cell? w _ X5)).trans X5;replace qio:=eq_true qio;replace qiF:=eq_true qiF
                  go_wp2
                  go_roundg k8
                  case measure=>have:=HJ1.out;have:=HK2.out;have:=Xj.out;have:=HK4.out;have:=qdx.out;have:=HK6.out;have:=qkK.out;have:=HK8.out;omega
                  case rel=>exact ⟨(false),(wrap64 (Kn+1)),(by first|rfl|(simp;done)|(simp [*];done)),(by first|rfl|(simp;done)|(simp [*];done)),H',⟨by have:=HJ1.out;have:=HK2.out;have:=Xj.out;have:=HK4.out;have:=qdx.out;have:=HK6.out;have:=qkK.out;have:=HK8.out;omega⟩,⟨by (with_reducible repeat (first|refine Q3 ?_ _|refine Q6 ?_|refine Q2 ?_ _));exact Z0.out⟩,⟨by repeat (first|(with_reducible first|exact HB.out|apply Q4|apply Q1|apply Qa|refine Q5 ?_ GV.out)|exact HB.out)⟩⟩
                 rw [if_neg c43] at H
                 exact absurd H (by simp)
                rw [if_neg c42] at H
                exact absurd H (by simp)
               rw [if_neg c41] at H;have c41b0:decide (Kn<((Yq (QU Ql YF) Zt).length:Int))=false:=decide_eq_false c41;clear c41;have H':=Q0.mk H;clear H
               go_wp2
               go_roundg k8
               case measure=>have:=HJ1.out;have:=HK2.out;have:=Xj.out;have:=HK4.out;have:=qdx.out;have:=HK6.out;have:=qkK.out;have:=HK8.out;omega
               case rel=>exact ⟨(qnf),(wrap64 (Zt+1)),(by first|rfl|(simp;done)|(simp [*];done)),(by first|rfl|(simp;done)|(simp [*];done)),H',⟨by have:=HJ1.out;have:=HK2.out;have:=Xj.out;have:=HK4.out;have:=qdx.out;have:=HK6.out;have:=qkK.out;have:=HK8.out;omega⟩,⟨by (with_reducible repeat (first|refine Q3 ?_ _|refine Q6 ?_|refine Q2 ?_ _));exact Z0.out⟩,⟨by repeat (first|(with_reducible first|exact HB.out|apply Q4|apply Q1|apply Qa|refine Q5 ?_ GV.out)|exact HB.out)⟩⟩
            rw [if_neg c33] at H
            exact absurd H (by simp)
           rw [if_neg c32] at H
           exact absurd H (by simp)
          rw [if_neg c31] at H;have c31b0:decide (Zt<((QU Ql YF).length:Int))=false:=decide_eq_false c31;clear c31;have H':=Q0.mk H;clear H
          go_wp2
          go_roundg k6
          case measure=>have:=HJ1.out;have:=HK2.out;have:=Xj.out;have:=HK4.out;have:=qdx.out;have:=HK6.out;omega
          case rel=>exact ⟨(qne),(wrap64 (YF+1)),(by first|rfl|(simp;done)|(simp [*];done)),(by first|rfl|(simp;done)|(simp [*];done)),H',⟨by have:=HJ1.out;have:=HK2.out;have:=Xj.out;have:=HK4.out;have:=qdx.out;have:=HK6.out;omega⟩,⟨by (with_reducible repeat (first|refine Q3 ?_ _|refine Q6 ?_|refine Q2 ?_ _));exact Z0.out⟩,⟨by repeat (first|(with_reducible first|exact HB.out|apply Q4|apply Q1|apply Qa|refine Q5 ?_ GV.out)|exact HB.out)⟩⟩
       rw [if_neg c28] at H
       exact absurd H (by simp)
      rw [if_neg c27] at H
      exact absurd H (by simp)
     rw [if_neg c26] at H;have c26b0:decide (YF<(Ql.length:Int))=false:=decide_eq_false c26;clear c26
     by_cases c46:qnd=true
     ·
      subst c46
      have H1:(some 0)=some r:=by rw [if_pos rfl] at H;exact H
      clear H;have H:=H1;clear H1;obtain rfl:=Option.some.inj H
      go_wp2
      go_ret
      exact ⟨by first|rfl|(simp [QB,QC]<;>rfl)|(simp [*,QB,QC]<;>rfl),by repeat (first|(with_reducible first|exact HB.out|apply Q4|apply Q1|apply Qa|refine Q5 ?_ GV.out)|exact HB.out)⟩
     replace c46:=Bool.eq_false_iff.mpr c46;subst c46
     have H1:(some 93)=some r:=by rw [if_neg (show ¬ (false=true) by decide)] at H;exact H
     clear H;have H:=H1;clear H1;obtain rfl:=Option.some.inj H
     go_wp2
     go_ret
     exact ⟨by first|rfl|(simp [QB,QC]<;>rfl)|(simp [*,QB,QC]<;>rfl),by repeat (first|(with_reducible first|exact HB.out|apply Q4|apply Q1|apply Qa|refine Q5 ?_ GV.out)|exact HB.out)⟩
end
section
theorem ql5 (b:Nat) (x q:Int) (w:World) (hq:w.cell? ⟨b,0,none⟩=some (.int .i64 q)) :
  Calls Try.prog 103 #[.int .i64 x,.pointer (some ⟨b,0,none⟩)] w fun e w'=>e = .returned (.bool (x != q))∧w=w':=by
 go_enter Try.func103,Try.ntmps103
 go_wp2
 go_ret
 exact ⟨rfl,rfl⟩
set_option maxHeartbeats 4000000 in
set_option maxRecDepth 100000 in
theorem indexFunc_103.calls (A:Option Addr) (c:Nat) (l:List Int) (b:Nat) (q:Int) (w:World) (hr:Kd.C (Kd.int .i64) w A l.length l) (hq:w.cell? ⟨b,0,none⟩=some (.int .i64 q)) :
  Calls Try.prog 113 #[.slice A l.length c,.func (.func 103) #[] #[.pointer (some ⟨b,0,none⟩)]] w fun e w'=>(∃ r:Int,e = .returned (.int .i64 r)∧decide (0≤r)=l.any (fun z=>z != q))∧Z3 w w':=by
 have HR:=Q0.mk hr
 have hmx:l.length≤9223372036854775807:=hr.2.1
 clear hr
 go_enter Try.func113,Try.ntmps113
 go_wp2
 go_loopg [8] l.length (fun d v8 w' => ∃ (x:Int) (k:Nat),v8 = .int .i64 x∧Q0 (x=(k:Int))∧Q0 (k+d=l.length)∧Q0 ((l.take k).any (fun z=>z != q)=false)∧Z3 w w')
 case atStart=>exact ⟨_,0,rfl,⟨rfl⟩,⟨Nat.zero_add _⟩,⟨by simp⟩,Z3.refl _⟩
 case round =>
  obtain ⟨x,k,rfl,HX,HD,HN,⟨m1,rfl⟩⟩:=hrel
  by_cases hk:x<(l.length:Int)
  ·
   have hx0:0≤x:=by have:=HX.out;omega
   obtain ⟨ad,ea,hA⟩:=Kd.at_int HR.out x hx0 hk
   subst ea
   have hkl:k<l.length:=by have:=HX.out;omega
   have HEL:=Q0.mk (show rd l x=l[k] by rw [HX.out];simp [rd,List.getD_eq_getElem?_getD,List.getElem?_eq_getElem hkl])
   have HTK:=Q0.mk (show (l.take (k+1)).any (fun z=>z != q)=((l.take k).any (fun z=>z != q)||(fun z=>z != q) (rd l x)) by rw [List.take_succ_eq_append_getElem hkl,List.any_append,HEL.out];simp)
   by_cases hp:(fun z=>z != q) (rd l x)=true
   ·
    have HP:=Q0.mk hp;have hb:(rd l x != q)=true:=HP.out;clear hp
    go_wp2_with (go_at_call 103;refine (ql5 b (rd l x) q _ ?hc).mono ?_;(case hc=>simpa using hq);rintro e w1 ⟨rfl,rfl⟩)
    go_ret
    refine ⟨⟨_,rfl,?_⟩,⟨_,rfl⟩⟩;rw [decide_eq_true (by simpa using hx0)]
    symm
    rw [List.any_eq_true]
    exact ⟨l[k],List.getElem_mem hkl,HEL.out ▸ HP.out⟩
   ·
    have HP:=Q0.mk (Bool.eq_false_iff.2 hp);have hb:(rd l x != q)=false:=HP.out;clear hp
    cases gk with
    | zero=>exact absurd hk (by have:=HX.out;have:=HD.out;omega)
    | succ d =>
     go_wp2_with (go_at_call 103;refine (ql5 b (rd l x) q _ ?hc).mono ?_;(case hc=>simpa using hq);rintro e w1 ⟨rfl,rfl⟩)
     go_roundg d
     case measure=>omega
     case rel=>exact ⟨_,k+1,rfl,⟨by rw [HX.out];rfl⟩,⟨by have:=HD.out;omega⟩,⟨by rw [HTK.out,HN.out,HP.out];rfl⟩,⟨_,rfl⟩⟩
  ·
   go_wp2
   go_ret
   refine ⟨⟨_,rfl,?_⟩,⟨_,rfl⟩⟩
   have hkk:k=l.length:=by have:=HX.out;have:=HD.out;omega
   have:=HN.out
   rw [hkk,List.take_length] at this
   rw [this]
   rfl
set_option maxRecDepth 100000 in
theorem containsFunc_103.calls (A:Option Addr) (c:Nat) (l:List Int) (b:Nat) (q:Int) (w:World) (hr:Kd.C (Kd.int .i64) w A l.length l) (hq:w.cell? ⟨b,0,none⟩=some (.int .i64 q)) :
  Calls Try.prog 102 #[.slice A l.length c,.func (.func 103) #[] #[.pointer (some ⟨b,0,none⟩)]] w fun e w'=>e = .returned (.bool (l.any (fun z=>z != q)))∧Z3 w w':=by
 go_enter Try.func102,Try.ntmps102
 go_wp2_with (go_at_call 113;refine (indexFunc_103.calls A c l b q _ ?h1 ?h2).mono ?_;(case h1=>exact hr);(case h2=>exact hq);rintro e w' ⟨⟨r,rfl,hd⟩,⟨n1,rfl⟩⟩;have HD:=Q0.mk hd;clear hd)
 go_ret
 exact ⟨congrArg (fun b_=>Ending.returned (.bool b_)) HD.out,⟨_,rfl⟩⟩
def Jl.f (l0:List Int) (a1:Int):Option Bool:=some (l0.any (fun z=>z != a1))
theorem containsG.calls (b:Nat) (A0:Option Addr) (c0 n:Nat) (l0:List Int) (a1:Int) (r:Bool) (w:World) (hn:n=l0.length) (hr0:Kd.C (Kd.int .i64) w A0 l0.length l0) (hc0:l0.length≤c0) (hq:w.cell? ⟨b,0,none⟩=some (.int .i64 a1)) (h:Jl.f l0 a1=some r) :
  Calls Try.prog 102 #[.slice A0 n c0,.func (.func 103) #[] #[.pointer (some ⟨b,0,none⟩)]] w fun e w'=>e = .returned (.bool r)∧Z3 w w':=by
 unfold Jl.f at h
 injection h with h
 subst h hn
 exact containsFunc_103.calls A0 c0 l0 b a1 w hr0 hq
def qaW (z:Int):Bool:=!(decide (0≤z)&&decide (z≤100000))
theorem qBb (x:Int) (w:World):Calls Try.prog 110 #[.int .i64 x] w fun e w'=>e = .returned (.bool (qaW x))∧w=w':=by
 by_cases h1:0≤x
 ·
  by_cases h2:x≤100000
  ·
   go_enter Try.func110,Try.ntmps110
   go_wp2
   go_ret
   exact ⟨by simp [qaW,h1,h2],rfl⟩
  ·
   go_enter Try.func110,Try.ntmps110
   go_wp2
   go_ret
   exact ⟨by simp [qaW,h1,h2],rfl⟩
 ·
  go_enter Try.func110,Try.ntmps110
  go_wp2
  go_ret
  exact ⟨by simp [qaW,h1],rfl⟩
end
end Go.Proofs.Ytmhomdohhihlcaa.P
