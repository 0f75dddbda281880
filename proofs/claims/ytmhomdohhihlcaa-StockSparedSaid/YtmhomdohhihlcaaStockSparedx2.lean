/- What the statement StockSpared leans on, part 3 of 5: contracts of the program's functions; conditions: none. -/
import Derived.Deep.RegionLaw
import Derived.Deep.RegionHeld3
import Derived.StillTailTactics
import Derived.Deep.RegionWith
import Derived.BigRegion
import Derived.Outline
import Derived.Test.YtmhomdohhihlcaaStockSparedx0
import Derived.Test.YtmhomdohhihlcaaStockSparedx1
set_option linter.unusedVariables false
set_option linter.unusedSimpArgs false
set_option linter.constructorNameAsVariable false
set_option linter.unusedSectionVars false
namespace Go.Proofs.Ytmhomdohhihlcaa.P
open Go.RowKit Go.Proofs.YtmhomdohhihlcaaW.PrintWords Go.Proofs.YtmhomdohhihlcaaW.PrintLast Go.Proofs.YtmhomdohhihlcaaW.PrintMore
section
attribute [local go_sem] Yn Yp YA YC Yb Yc Yo Yq
def ON (mesh:Int):Nat→List Int→Int→List Int × Int
 | 0,n,t=>(n,t)
 | j+1,n,t=>if mesh≤(j:Int) then ON mesh j (n.set j (wrap64 (rd n j-mn (rd n j) t))) (wrap64 (t-mn (rd n j) t)) else (n,t)
def KG (n spawn:List Int) (k:Nat):List Int:=(List.range k).map fun i:Nat=>wrap64 (rd n i*rd spawn i)
def UQ (last:Int) (n keep:List Int):Nat→List Int
 | 0=>[0,0,0,0,0,0]
 | k+1=>(UQ last n keep k).set (mn ((k:Int)+1) last).toNat (wrap64 (rd (UQ last n keep k) (mn ((k:Int)+1) last)+wrap64 (Int.tdiv (wrap64 (rd n k*rd keep k)) 1000)))
def sumW (l:List Int):Int:=l.foldl (fun s x=>wrap64 (s+x)) 0
theorem qle (l:List Int) (hl:l.length≤9223372036854775806) (d:Nat):∀ (s:Int) (i:Nat),i≤l.length→l.length-i=d→QY.l0 (d+1) s l (l.length:Int) i=some ((l.drop i).foldl (fun s x=>wrap64 (s+x)) s):=by
 induction d with
 | zero =>
  intro s i h1 h2
  obtain rfl:i=l.length:=by omega
  simp [QY.l0]
 | succ d ih =>
  intro s i h1 h2
  have hi:i<l.length:=by omega
  rw [QY.l0,if_pos (by omega),if_pos (by omega),if_pos (by omega)]
  have hw:wrap64 ((i:Int)+1)=((i+1:Nat):Int):=by unfold wrap64;omega
  rw [hw,ih _ (i+1) (by omega) (by omega)]
  conv=>rhs;rw [List.drop_eq_getElem_cons hi]
  simp only [rd,Int.toNat_natCast,List.getD_eq_getElem?_getD,List.getElem?_eq_getElem hi,Option.getD_some,List.foldl_cons]
theorem qnG (l:List Int) (hl:l.length≤9223372036854775806):QY.f (l.length+1) l=some (sumW l):=by
 have h:=qle l hl l.length 0 0 (by omega) (by omega)
 simpa [QY.f,sumW] using h
theorem qaV (last:Int) (n keep:List Int):∀ k,(UQ last n keep k).length=6
 | 0=>rfl
 | k+1=>by rw [UQ,List.length_set,qaV last n keep k]
theorem qjk (m i:Int) (h:m≤i) (h0:0≤m):0≤i:=by omega
set_option maxHeartbeats 4000000 in
set_option maxRecDepth 100000 in
theorem Zk.calls6 (A0:Option Addr) (c0 m:Nat) (A1:Option Addr) (c1:Nat) (l1:List Int) (A2:Option Addr) (c2:Nat) (l2:List Int) (a3 a4:Int) (n:List Int) (take rec_:Int) (w:World)
  (hn:n.length=6) (hm1:1≤m) (hm6:m≤6) (e1:l1.length=m) (e2:l2.length=m) (hm0:0≤a4) (hmm:a4<m) (hr1:Kd.C (Kd.int .i64) w A1 l1.length l1) (hr2:Kd.C (Kd.int .i64) w A2 l2.length l2) :
  Calls Try.prog 77 #[.agg #[.slice A0 m c0,.slice A1 l1.length c1,.slice A2 l2.length c2,.int .i64 a3,.int .i64 a4],.agg #[.int .i64 (rd n 0),.int .i64 (rd n 1),.int .i64 (rd n 2),.int .i64 (rd n 3),.int .i64 (rd n 4),.int .i64 (rd n 5)],.int .i64 take,.int .i64 rec_] w fun e w' =>
   e = .returned (.tuple #[.int .i64 (sumW (KG (ON a4 m n take).1 l2 m)),.agg (ar6 ((UQ ((m:Int)-1) (ON a4 m n take).1 l1 m).set 0 (wrap64 (rd (UQ ((m:Int)-1) (ON a4 m n take).1 l1 m) 0+rec_)))).toArray])∧Below w.heap.size w w':=by
 have hu:=Try.underlying111
 have hu2:=Try.underlying39
 have hu3:=Try.underlying115
 have HR1:=Q0.mk hr1
 have HR2:=Q0.mk hr2
 have HN:=Q0.mk hn
 have HE1:=Q0.mk e1
 have HE2:=Q0.mk e2
 have HB:=Q0.mk (Below.refl w.heap.size w)
 clear hr1 hr2 hn e1 e2
 obtain ⟨R,hR⟩:∃ R,R=ON a4 m n take:=⟨_,rfl⟩
 rw [← hR]
 have HRR:=Q0.mk hR
 clear hR
 go_enter Try.func77,Try.ntmps77
 go_wp2_with (fail)
 have BR0:(((w.alloc (.cells #[.slice A0 m c0,.slice A1 l1.length c1,.slice A2 l2.length c2,.int .i64 a3,.int .i64 a4] 111)).alloc (.cells (ar6 n).toArray 115)).alloc (.cells (ar6 []).toArray 115)).heap[w.heap.size]? = some (.cells #[.slice A0 m c0,.slice A1 l1.length c1,.slice A2 l2.length c2,.int .i64 a3,.int .i64 a4] 111 (0,0)):=Q2 (Q2 (OS w _) _) _
 have I50:Is6 (((w.alloc (.cells #[.slice A0 m c0,.slice A1 l1.length c1,.slice A2 l2.length c2,.int .i64 a3,.int .i64 a4] 111)).alloc (.cells (ar6 n).toArray 115)).alloc (.cells (ar6 []).toArray 115)) (w.heap.size+1) n:=by
  have h:=OS (w.alloc (.cells #[.slice A0 m c0,.slice A1 l1.length c1,.slice A2 l2.length c2,.int .i64 a3,.int .i64 a4] 111)) (.cells (ar6 n).toArray 115)
  rw [World.size_alloc] at h
  exact Q2 h _
 have I90:Is6 (((w.alloc (.cells #[.slice A0 m c0,.slice A1 l1.length c1,.slice A2 l2.length c2,.int .i64 a3,.int .i64 a4] 111)).alloc (.cells (ar6 n).toArray 115)).alloc (.cells (ar6 []).toArray 115)) (w.heap.size+1+1) []:=by
  have h:=OS ((w.alloc (.cells #[.slice A0 m c0,.slice A1 l1.length c1,.slice A2 l2.length c2,.int .i64 a3,.int .i64 a4] 111)).alloc (.cells (ar6 n).toArray 115)) (.cells (ar6 []).toArray 115)
  rw [World.size_alloc,World.size_alloc] at h
  exact h
 have BR:=Q0.mk BR0
 have I5:=Q0.mk I50
 have I9:=Q0.mk I90
 clear BR0 I50 I90
 go_loopg [2,11] m (fun j v2 v11 w' => ∃ (t i:Int) (n':List Int),v2 = .int .i64 t∧v11 = .int .i64 i∧Q0 (i=(j:Int)-1)∧Q0 (j≤m)∧Q0 (n'.length=6)∧Q0 (R=ON a4 j n' t)∧Q0 (w'.heap[w.heap.size]? = some (.cells #[.slice A0 m c0,.slice A1 l1.length c1,.slice A2 l2.length c2,.int .i64 a3,.int .i64 a4] 111 (0,0)))∧Q0 (Is6 w' (w.heap.size+1) n')∧Q0 (Is6 w' (w.heap.size+1+1) [])∧Q0 (Below w.heap.size w w'))
 case atStart=>exact ⟨take,_,n,rfl,rfl,⟨rfl⟩,⟨Nat.le_refl _⟩,HN,HRR,BR,I5,I9,⟨Q3 (Q3 (Q3 HB.out _) _) _⟩⟩
 case round =>
  clear HRR BR I5 I9 HB HN
  obtain ⟨t,i,n',rfl,rfl,HI,HJ,HN,HRR,BR,I5,I9,HB⟩:=hrel
  have b0:wr.cell? ⟨w.heap.size,0,none⟩=some (.slice A0 m c0):=(Q8 BR.out 0).trans rfl
  have b1:wr.cell? ⟨w.heap.size,1,none⟩=some (.slice A1 l1.length c1):=(Q8 BR.out 1).trans rfl
  have b2:wr.cell? ⟨w.heap.size,2,none⟩=some (.slice A2 l2.length c2):=(Q8 BR.out 2).trans rfl
  have b3:wr.cell? ⟨w.heap.size,3,none⟩=some (.int .i64 a3):=(Q8 BR.out 3).trans rfl
  have b4:wr.cell? ⟨w.heap.size,4,none⟩=some (.int .i64 a4):=(Q8 BR.out 4).trans rfl
  by_cases hc:a4≤i
  ·
   have h0:0≤i:=qjk a4 i hc hm0
   have h6:i<6:=by have:=HI.out;have:=HJ.out;omega
   have hx:=I5.out.celli i h0 h6
   have hf:=I5.out.frz i.toNat
   obtain ⟨c,hce⟩:∃ c,(if t<rd n' i then t else rd n' i)=c:=⟨_,rfl⟩
   have HC:=Q0.mk (show mn (rd n' i) t=c from hce)
   go_wp2
   cases gk with
   | zero=>exact absurd h0 (by have:=HI.out;omega)
   | succ j =>
    have hij:i=(j:Int):=by have:=HI.out;omega
    subst hij
    go_roundg j
    case measure=>omega
    case rel=>exact ⟨_,_,_,rfl,rfl,⟨rfl⟩,⟨by have:=HJ.out;omega⟩,⟨by rw [List.length_set];exact HN.out⟩,⟨by rw [HRR.out,ON,if_pos hc,HC.out];rfl⟩,⟨Qk BR.out (Nat.ne_of_lt (Nat.lt_succ_self _)) _⟩,⟨I5.out.seti HN.out _ h0 h6 _⟩,⟨I9.out.far (Nat.succ_ne_self _) _⟩,⟨Q5 HB.out (Nat.le_succ _)⟩⟩
  ·
   have HRn:=Q0.mk (show R.1=n' by
    rw [HRR.out]
    cases gk with
    | zero=>rfl
    | succ j=>rw [ON,if_neg (by have:=HI.out;omega)])
   clear HRR HI HJ
   obtain ⟨W1,rfl⟩:∃ W1:World,W1=wr:=⟨_,rfl⟩
   have hlt:=I9.out.lt
   have I14:=Q0.mk (show Is6 (W1.alloc (.cells (ar6 []).toArray 115)) W1.heap.size [0,0,0,0,0,0] from OS W1 _)
   replace BR:=Q0.mk (Q2 BR.out (.cells (ar6 []).toArray 115))
   replace I5:=Q0.mk (I5.out.alloc (.cells (ar6 []).toArray 115))
   replace I9:=Q0.mk (I9.out.alloc (.cells (ar6 []).toArray 115))
   replace HB:=Q0.mk (Q3 HB.out (.cells (ar6 []).toArray 115))
   go_wp2
   clear b0 b1 b2 b3 b4
   go_loopg [13,46] m (fun d v13 v46 w' => ∃ (i:Int) (k:Nat) (sv:Value),v46 = .int .i64 i∧sv=v13∧Q0 (i=(k:Int))∧Q0 (k+d=m)∧Q0 (Kd.R (Kd.int .i64) 3 w' w.heap.size (fun _=>True) sv (KG n' l2 k))∧Q0 (Is6 w' W1.heap.size (UQ ((m:Int)-1) n' l1 k))∧Q0 (w'.heap[w.heap.size]? = some (.cells #[.slice A0 m c0,.slice A1 l1.length c1,.slice A2 l2.length c2,.int .i64 a3,.int .i64 a4] 111 (0,0)))∧Q0 (Is6 w' (w.heap.size+1) n')∧Q0 (Is6 w' (w.heap.size+1+1) [])∧Q0 (Below w.heap.size w w'))
   case atStart=>exact ⟨_,0,_,rfl,rfl,⟨rfl⟩,⟨Nat.zero_add _⟩,⟨Kd.R_nil _ _ _ _ _⟩,I14,BR,I5,I9,HB⟩
   case round =>
    clear I14 BR I5 I9 HB;obtain ⟨x,k,sv,rfl,rfl,HX,HD,HS,I14,BR,I5,I9,HB⟩:=hrel;have b0:wr.cell? ⟨w.heap.size,0,none⟩=some (.slice A0 m c0):=(Q8 BR.out 0).trans rfl;have b1:wr.cell? ⟨w.heap.size,1,none⟩=some (.slice A1 l1.length c1):=(Q8 BR.out 1).trans rfl;have b2:wr.cell? ⟨w.heap.size,2,none⟩=some (.slice A2 l2.length c2):=(Q8 BR.out 2).trans rfl
    by_cases hk:x<(m:Int)
    ·
     have hx0:0≤x:=by have:=HX.out;omega
     have hx6:x<6:=by omega
     have h5:=I5.out.celli x hx0 hx6;obtain ⟨ad2,ea2,hw2⟩:=Kd.at_int HR2.out x hx0 (by have:=HE2.out;omega);subst ea2;have L2:=Q0.mk (World.block_lt_of_cell? w _ hw2);have hA2:=(HB.out.cell L2.out).trans hw2;have HW2:=Q0.mk hw2;clear hw2
     have hl2:x<(l2.length:Int):=by have:=HE2.out;omega
     obtain ⟨p,hp⟩:∃ p,p=wrap64 (rd n' x*rd l2 x):=⟨_,rfl⟩
     have hpw:IntKind.i64.wrap (rd n' x*rd l2 x)=p:=by rw [hp,Yj]
     have HP:=Q0.mk hp;clear hp
     go_wp2
     have hne5:=Kd.R_ne (Kd.R_drew HS.out) (Q7 I5.out) (by decide);have hneR:=Kd.R_ne (Kd.R_drew HS.out) (Q7 BR.out) (by decide)
     go_region_held3 (fun w'=>w'.cell? ⟨w.heap.size+1,x.toNat,none⟩=some (.int .i64 (rd n' x))∧w'.cell? ⟨w.heap.size,2,none⟩=some (.slice (some ad2) l2.length c2)∧w'.cell? (ad2.add x.toNat)=some (.int .i64 (rd l2 x)))
      (first|go_keep|exact ⟨(Is6.celli (JK (Q7 I5.out) hg1 hne5) x hx0 hx6),((Q8 (JK (Q7 BR.out) hg1 hneR) 2).trans rfl),((HB1.cell L2.out).trans HW2.out)⟩)
      ((refine Kd.R_append_step (Kd.int .i64) (w0:=w) (W:=wr.drew) w.heap.size ?hw (.tmp 49) (.tmp 60) 37 3 (.int .i64 0) 8 ?ho Try.underlying37 Xc rfl ?n1 ?n2 sv (KG n' l2 k) p [.int .i64 p] (fun _=>True) (fun _=>False) ?e1 ?e2 rfl (fun _ h=>h.elim) (fun _ _=>trivial) (Kd.R_drew HS.out) (Yr HB.out) ?c1 ?c2 ?_;(case hw=>rfl);(case ho=>rfl);(case n1=>decide);(case n2=>decide);(case e1=>rfl);(case e2=>rfl);(case c1=>exact Qf (Yr HB.out));(case c2=>have:=HD.out;simp [KG];omega);intro v1 w1 HS1 HB1 hg1 qgV))
     have J5:=Q0.mk (show Is6 w1 (w.heap.size+1) n' from JK (Q7 I5.out) hg1 (Kd.R_ne (Kd.R_drew HS.out) (Q7 I5.out) (by decide)));have J9:=Q0.mk (show Is6 w1 (w.heap.size+1+1) [] from JK (Q7 I9.out) hg1 (Kd.R_ne (Kd.R_drew HS.out) (Q7 I9.out) (by decide)));have J14:=Q0.mk (show Is6 w1 W1.heap.size _ from JK (Q7 I14.out) hg1 (Kd.R_ne (Kd.R_drew HS.out) (Q7 I14.out) (by decide)));have JR:=Q0.mk (JK (Q7 BR.out) hg1 (Kd.R_ne (Kd.R_drew HS.out) (Q7 BR.out) (by decide)));have JS:=Q0.mk HS1;have JB:=Q0.mk HB1;clear I5 I9 I14 BR HS HB HS1 HB1 hg1 qgV b0 b1 b2 h5 hA2 hl2 hpw;obtain ⟨y,hy⟩:∃ y,y=UQ ((m:Int)-1) n' l1 k:=⟨_,rfl⟩;have HY:=Q0.mk hy;rw [← hy] at J14;clear hy;have d1:w1.cell? ⟨w.heap.size,1,none⟩=some (.slice A1 l1.length c1):=(Q8 JR.out 1).trans rfl;have h5:=J5.out.celli x hx0 hx6;obtain ⟨ad1,ea1,hw1⟩:=Kd.at_int HR1.out x hx0 (by have:=HE1.out;omega);subst ea1;have L1:=Q0.mk (World.block_lt_of_cell? w _ hw1);have hA1:=(JB.out.cell L1.out).trans hw1;have HW1:=Q0.mk hw1;clear hw1
     have hl1:x<(l1.length:Int):=by have:=HE1.out;omega
     obtain ⟨jx,hjx⟩:∃ jx,(if (m:Int)-1<x+1 then (m:Int)-1 else x+1)=jx:=⟨_,rfl⟩;have HJX:=Q0.mk (show mn (x+1) ((m:Int)-1)=jx from hjx)
     have hj0:0≤jx:=by rw [← hjx];split<;>omega
     have hj6:jx<6:=by rw [← hjx];split<;>omega
     have h14:=J14.out.celli jx hj0 hj6;have f14:=J14.out.frz jx.toNat
     have hwx:IntKind.i64.wrap (x+1)=x+1:=by rw [Yj];unfold wrap64;omega
     obtain ⟨q1,hq1⟩:∃ q1,IntKind.i64.wrap (rd n' x*rd l1 x)=q1:=⟨_,rfl⟩;obtain ⟨q2,hq2⟩:∃ q2,IntKind.i64.wrap (Int.tdiv q1 1000)=q2:=⟨_,rfl⟩;obtain ⟨q3,hq3⟩:∃ q3,IntKind.i64.wrap (rd y jx+q2)=q3:=⟨_,rfl⟩;have HQ:=Q0.mk (show q3=wrap64 (rd y jx+wrap64 (Int.tdiv (wrap64 (rd n' x*rd l1 x)) 1000)) by rw [← hq3,← hq2,← hq1,Yj,Yj,Yj])
     go_wp2
     go_still_tail 19,(by kernel_rfl)
     change wpList _ _ _ _ _ w1.drew
     go_wp2
     cases gk with
     | zero=>exact absurd hk (by have:=HX.out;have:=HD.out;omega)
     | succ d =>
      have hxk:x=(k:Int):=HX.out
      go_roundg d
      case measure=>omega
      case rel =>
       have hgt:w.heap.size<W1.heap.size:=by omega
       refine ⟨_,k+1,_,rfl,rfl,⟨by rw [hxk];rfl⟩,⟨by have:=HD.out;omega⟩,⟨?_⟩,⟨?_⟩,⟨Qk (Q7 JR.out) (Nat.ne_of_lt hgt) _⟩,⟨J5.out.drew.far (Nat.ne_of_lt (by show w.heap.size+1<W1.heap.size;omega)) _⟩,⟨J9.out.drew.far (Nat.ne_of_lt hlt) _⟩,⟨Q5 (Yr JB.out) (Nat.le_of_lt hgt)⟩⟩
       ·
        have e:KG n' l2 (k+1)=KG n' l2 k++[p]:=by
         rw [HP.out,hxk];simp [KG,List.range_succ]
        rw [e]
        exact qj1 (Kd.R_drew JS.out) J14.out.drew _ _
       ·
        have e:UQ ((m:Int)-1) n' l1 (k+1)=y.set jx.toNat q3:=by
         rw [UQ,← HY.out,← hxk,HJX.out,HQ.out]
        rw [e]
        exact J14.out.drew.seti (by rw [HY.out];exact qaV _ _ _ k) jx hj0 hj6 q3
    ·
     have hkm:k=m:=by have:=HX.out;have:=HD.out;omega
     subst hkm;obtain ⟨y,hy⟩:∃ y,y=UQ ((k:Int)-1) n' l1 k:=⟨_,rfl⟩;have HY:=Q0.mk hy;rw [← hy] at I14;clear hy;obtain ⟨i0,i1,i2,i3,i4,i5⟩:=I14.out.cells;have f0:=I14.out.frz 0;obtain ⟨z,hz⟩:∃ z,wrap64 (rd y 0+rec_)=z:=⟨_,rfl⟩;obtain ⟨As,cs,hsv⟩:=Kd.R_slice HS.out;subst hsv;have hcs:=(Kd.R_reads' HS.out).2.1;have HSL:=Q0.mk (show (KG n' l2 k).length=k by simp [KG])
     have hgt:w.heap.size<W1.heap.size:=by omega
     have Y14:=Q0.mk (show Is6 (wr.setCell ⟨W1.heap.size,0,none⟩ (.int .i64 z)) W1.heap.size (y.set 0 z) from I14.out.set (by rw [HY.out];exact qaV _ _ _ k) 0 (by omega) z);have YS:=Q0.mk (qj1 HS.out I14.out 0 (.int .i64 z));have Y9:=Q0.mk (I9.out.far (p:=⟨W1.heap.size,0,none⟩) (Nat.ne_of_lt hlt) (.int .i64 z));have YB:=Q0.mk (Q5 (j:=0) (v:=.int .i64 z) HB.out (Nat.le_of_lt hgt))
     go_wp2
     generalize wr.setCell ⟨W1.heap.size,0,none⟩ (.int .i64 z)=w2 at Y14 YS Y9 YB ⊢
     clear i0 i1 i2 i3 i4 i5 f0 b0 b1 b2;obtain ⟨i0,i1,i2,i3,i4,i5⟩:=Y14.out.cells;obtain ⟨z0,z1,z2,z3,z4,z5⟩:=Y9.out.cells;obtain ⟨f0,f1,f2,f3,f4,f5⟩:=Y9.out.frozen
     go_region_with (go_at_call 97;refine (QY.calls ((KG n' l2 k).length+1) As cs (KG n' l2 k) (sumW (KG n' l2 k)) _ ?hr hcs ?hs).mono ?_;(case hr=>exact Kd.C_below (Kd.R_reads' YS.out).2.2 (by repeat (first|exact Below.refl _ _|apply Yr|apply Q1)));(case hs=>exact qnG _ (by rw [HSL.out];omega));rintro e w' ⟨rfl,⟨nq,rfl⟩⟩)
     all_goals
      go_wp2
      refine bodyPost_ret (qhB rfl _ _ (w.heap.size+1+1) 115 (ar6 (y.set 0 z)).toArray (0,0) _ rfl (Is6.put6 (Y9.out.drewN _) (y.set 0 z)) Try.underlying115 rfl (by kernel_rfl)) rfl ?_;refine ⟨?_,?_⟩
      ·
       show Ending.returned (.tuple #[.int .i64 (sumW (KG n' l2 k)),.agg (ar6 (y.set 0 z)).toArray])=_
       rw [HRn.out,← HY.out,hz]
      ·
       have h1:w.heap.size≤w.heap.size+1+1:=by omega
       exact Q5 (Q5 (Q5 (Q5 (Q5 (Q5 (Q1 YB.out _) h1) h1) h1) h1) h1) h1
def qcU (m:Nat) (mesh:Int) (keep spawn n:List Int) (take rec_:Int):Int × List Int :=
 (sumW (KG (ON mesh m n take).1 spawn m),(UQ ((m:Int)-1) (ON mesh m n take).1 keep m).set 0 (wrap64 (rd (UQ ((m:Int)-1) (ON mesh m n take).1 keep m) 0+rec_)))
def okR (l0 l1 l2:List Int) (a4:Int):Prop:=1≤l0.length∧l0.length≤6∧l1.length=l0.length∧l2.length=l0.length∧0≤a4∧a4<(l0.length:Int)
instance (l0 l1 l2:List Int) (a4:Int):Decidable (okR l0 l1 l2 a4):=by unfold okR;infer_instance
def Zk.f (Qb Qh Qd:List Int) (Yd Ya qce qcf qcg qch qci qcj a2 a3:Int):Option (Int × Int × Int × Int × Int × Int × Int) :=
 if okR Qb Qh Qd Ya then
  some ((qcU Qb.length Ya Qh Qd [qce,qcf,qcg,qch,qci,qcj] a2 a3).1,
   rd (qcU Qb.length Ya Qh Qd [qce,qcf,qcg,qch,qci,qcj] a2 a3).2 0,rd (qcU Qb.length Ya Qh Qd [qce,qcf,qcg,qch,qci,qcj] a2 a3).2 1,
   rd (qcU Qb.length Ya Qh Qd [qce,qcf,qcg,qch,qci,qcj] a2 a3).2 2,rd (qcU Qb.length Ya Qh Qd [qce,qcf,qcg,qch,qci,qcj] a2 a3).2 3,
   rd (qcU Qb.length Ya Qh Qd [qce,qcf,qcg,qch,qci,qcj] a2 a3).2 4,rd (qcU Qb.length Ya Qh Qd [qce,qcf,qcg,qch,qci,qcj] a2 a3).2 5)
 else none
theorem Zk.calls (Y3:Option Addr) (QG:Nat) (Qb:List Int) (Y1:Option Addr) (QI:Nat) (Qh:List Int) (Y5:Option Addr) (QJ:Nat) (Qd:List Int) (Yd Ya qce qcf qcg qch qci qcj a2 a3 r1 r2 r3 r4 r5 r6 r7:Int) (w:World)
  (Gr:Kd.C (Kd.int .i64) w Y3 Qb.length Qb) (GI:Qb.length≤QG) (Gs:Kd.C (Kd.int .i64) w Y1 Qh.length Qh) (GJ:Qh.length≤QI) (Gt:Kd.C (Kd.int .i64) w Y5 Qd.length Qd) (GK:Qd.length≤QJ)
  (h:Zk.f Qb Qh Qd Yd Ya qce qcf qcg qch qci qcj a2 a3=some (r1,r2,r3,r4,r5,r6,r7)) :
  Calls Try.prog 77 #[.agg #[.slice Y3 Qb.length QG,.slice Y1 Qh.length QI,.slice Y5 Qd.length QJ,.int .i64 Yd,.int .i64 Ya],.agg #[.int .i64 qce,.int .i64 qcf,.int .i64 qcg,.int .i64 qch,.int .i64 qci,.int .i64 qcj],.int .i64 a2,.int .i64 a3] w fun e w' =>
   e = .returned (.tuple #[.int .i64 r1,.agg #[.int .i64 r2,.int .i64 r3,.int .i64 r4,.int .i64 r5,.int .i64 r6,.int .i64 r7]])∧Below w.heap.size w w':=by
 unfold Zk.f at h
 by_cases hv:okR Qb Qh Qd Ya
 ·
  rw [if_pos hv] at h
  obtain ⟨h1,h2,h3,h4,h5,h6⟩:=hv
  injection h with h
  simp only [Prod.mk.injEq] at h
  obtain ⟨rfl,rfl,rfl,rfl,rfl,rfl,rfl⟩:=h
  exact Zk.calls6 Y3 QG Qb.length Y1 QI Qh Y5 QJ Qd Yd Ya [qce,qcf,qcg,qch,qci,qcj] a2 a3 w rfl h1 h2 h3 h4 h5 h6 Gs Gt
 ·
  rw [if_neg hv] at h
  exact absurd h (by simp)
end
section
attribute [local go_sem] Yn Yp YA YC Yb Yc Yo Yq
mutual
def QC.j0:Nat→List Int→List Int→Bool→List Int→List Int→List Int→Int→Int→Option (List Int × Int)
 | 0,_,_,_,_,_,_,_,_=>none
 | k+1,x1,x2,x9,Kb,Ke,Kf,Kg,Kh=>QC.l0 k x1 x2 x9 0 Kb Ke Kf Kg Kh
def QC.l0:Nat→List Int→List Int→Bool→Int→List Int→List Int→List Int→Int→Int→Option (List Int × Int)
 | 0,_,_,_,_,_,_,_,_,_=>none
 | k+1,x1,x2,x9,x10,Kb,Ke,Kf,Kg,Kh=>if x9=true then (QC.j2 k x1 x2 x9 x10 (decide (x10<(x1.length:Int))) Kb Ke Kf Kg Kh) else (QC.j2 k x1 x2 x9 x10 false Kb Ke Kf Kg Kh)
def QC.j2:Nat→List Int→List Int→Bool→Int→Bool→List Int→List Int→List Int→Int→Int→Option (List Int × Int)
 | 0,_,_,_,_,_,_,_,_,_,_=>none
 | k+1,x1,x2,x9,x10,x39,Kb,Ke,Kf,Kg,Kh=>if x39=true then (if 0≤x10 then (if x10<(x1.length:Int) then ((Qj.f (rd x1 x10) 0 100000000).bind fun t159=>(if t159=true then (if x10<(x2.length:Int) then ((Qj.f (rd x2 x10) 0 100000).bind fun qcL=>(QC.l0 k x1 x2 qcL (wrap64 (x10+1)) Kb Ke Kf Kg Kh)) else (none)) else (QC.l0 k x1 x2 false (wrap64 (x10+1)) Kb Ke Kf Kg Kh))) else (none)) else (none)) else (if x9=true then ((Zc.f Kb Ke Kf Kg Kh).bind fun Ks=>(QC.l1 k x1 x2 ([]:List Int) (x1.length:Int) 0 Kb Ke Kf Kg Kh Ks.1 Ks.2.1 Ks.2.2.1 Ks.2.2.2.1 Ks.2.2.2.2.1 Ks.2.2.2.2.2)) else (some (([]:List Int),92)))
def QC.l1:Nat→List Int→List Int→List Int→Int→Int→List Int→List Int→List Int→Int→Int→Int→Int→Int→Int→Int→Int→Option (List Int × Int)
 | 0,_,_,_,_,_,_,_,_,_,_,_,_,_,_,_,_=>none
 | k+1,x1,x2,x13,x59,x60,Kb,Ke,Kf,Kg,Kh,qnM,qnN,qnO,qnP,qnQ,qnR=>if x60<x59 then (if 0≤x60 then (if x60<(x1.length:Int) then (if x60<(x2.length:Int) then ((Zk.f Kb Ke Kf Kg Kh qnM qnN qnO qnP qnQ qnR (rd x1 x60) (rd x2 x60)).bind fun qcl=>(if x13.length<17592186044416 then (QC.l1 k x1 x2 (x13++[qcl.1]) x59 (wrap64 (x60+1)) Kb Ke Kf Kg Kh qcl.2.1 qcl.2.2.1 qcl.2.2.2.1 qcl.2.2.2.2.1 qcl.2.2.2.2.2.1 qcl.2.2.2.2.2.2) else (none))) else (none)) else (none)) else (none)) else (if 0≤(x13.length:Int) then (if (x13.length:Int)≤(x13.length:Int) then (some ((x13.take ((x13.length:Int):Int).toNat),0)) else (none)) else (none))
end
def QC.f (k:Nat) (Qb:List Int) (Qh:List Int) (Qd:List Int) (Yd:Int) (Ya:Int) (l1:List Int) (l2:List Int):Option (List Int × Int):=(Ql.f k Qb Qh Qd Yd Ya).bind fun t156=>(if t156=true then ((Qj.f (l1.length:Int) 1 10).bind fun t157=>(if t157=true then (QC.j0 k l1 l2 ((l2.length:Int)==(l1.length:Int)) Qb Qh Qd Yd Ya) else (QC.j0 k l1 l2 false Qb Qh Qd Yd Ya))) else (QC.j0 k l1 l2 false Qb Qh Qd Yd Ya))
def QC.T15:Bool × List (List Nat × List Nat):=(true,[([],[]),([],[]),([],[]),([],[]),([],[]),([3,4],[3,4]),([5],[5]),([],[]),([],[]),([7,8],[7,8]),([9],[9]),([0,1,2,6,10],[0,1,2,6,10]),([11],[11]),([12],[12]),([12],[12]),([],[]),([13,11,0,1,2,3,4,5,6,7,8,9,10,11,12,13,15],[13]),([15,14,16,0,1,2,3,4,5,6,7,8,9,10,11,12,13,14,15,16],[14,15])])
def QC.B15:List Nat:=[0,0,0,0,0,24,56,0,0,384,896,2047,4095,8191,8191,0,49151,131071]
theorem QC.tab15:rtab .any (qfY Try.f25 15)=QC.T15:=by kernel_rfl
theorem QC.bits15:Oz QC.T15.2 QC.B15=true:=by kernel_rfl
set_option maxHeartbeats 8000000 in
set_option maxRecDepth 100000 in
theorem QC.calls (k:Nat) (Y3:Option Addr) (QG:Nat) (Qb:List Int) (Y1:Option Addr) (QI:Nat) (Qh:List Int) (Y5:Option Addr) (QJ:Nat) (Qd:List Int) (Yd:Int) (Ya:Int) (A1:Option Addr) (c1:Nat) (l1:List Int) (A2:Option Addr) (c2:Nat) (l2:List Int) (r1:List Int) (r2:Int) (w:World) (Gr:Kd.C (Kd.int .i64) w Y3 Qb.length Qb) (GI:Qb.length≤QG) (Gs:Kd.C (Kd.int .i64) w Y1 Qh.length Qh) (GJ:Qh.length≤QI) (Gt:Kd.C (Kd.int .i64) w Y5 Qd.length Qd) (GK:Qd.length≤QJ) (hr1:Kd.C (Kd.int .i64) w A1 l1.length l1) (hc1:l1.length≤c1) (hr2:Kd.C (Kd.int .i64) w A2 l2.length l2) (hc2:l2.length≤c2) (h:QC.f k Qb Qh Qd Yd Ya l1 l2=some (r1,r2)) :
  Calls Try.prog 25 #[.agg #[.slice Y3 Qb.length QG,.slice Y1 Qh.length QI,.slice Y5 Qd.length QJ,.int .i64 Yd,.int .i64 Ya],.slice A1 l1.length c1,.slice A2 l2.length c2] w fun e w' => ∃ v0_:Value,e = .returned (.tuple #[v0_,.int .i64 r2])∧Kd.V (Kd.int .i64) 3 w' w.heap.size (fun k_=>(w.heap.size≤k_)) v0_ r1∧Below w.heap.size w w':=by
 have qm5:=Try.underlying39
 have qkQ:=Try.underlying111
 have qs6:=Try.underlying115
 have Jt:=Q0.mk Gr
 have JO:=Q0.mk GI
 clear Gr GI
 have JD:=Q0.mk Gs
 have JP:=Q0.mk GJ
 clear Gs GJ
 have JE:=Q0.mk Gt
 have JQ:=Q0.mk GK
 clear Gt GK
 have HR1:=Q0.mk hr1
 have HC1:=Q0.mk hc1
 clear hr1 hc1
 have HR2:=Q0.mk hr2
 have HC2:=Q0.mk hc2
 clear hr2 hc2
 have HB:=Q0.mk (Below.refl w.heap.size w)
 have H:((Ql.f k Qb Qh Qd Yd Ya).bind fun t156=>(if t156=true then ((Qj.f (l1.length:Int) 1 10).bind fun t157=>(if t157=true then (QC.j0 k l1 l2 ((l2.length:Int)==(l1.length:Int)) Qb Qh Qd Yd Ya) else (QC.j0 k l1 l2 false Qb Qh Qd Yd Ya))) else (QC.j0 k l1 l2 false Qb Qh Qd Yd Ya)))=some (r1,r2):=h
 clear h
 have HC4:=Q0.mk H
 clear H
 go_enter Try.func25,Try.ntmps25
 go_upto_region 2 with (first|((with_reducible refine QW (N:=3) rfl ?_);(try (refine Gq (by rfl) ?_;dsimp only));refine Yw ?hg (N:=3) ?hd (cs:=#[.slice Y3 Qb.length QG,.slice Y1 Qh.length QI,.slice Y5 Qd.length QJ,.int .i64 Yd,.int .i64 Ya]) (t:=39) ?hr ?_;(case hd=>rfl);(case hg=>rfl);(case hr=>first|(go_simp;done)|(go_simp;rfl));intro ZY hg w5 hbox hb;have n0_:=Q0.mk (Qm (by repeat (first|(with_reducible first|exact HB.out|apply Q3|apply Q1|apply Q6)|exact HB.out)) hb);have n1_:=Q0.mk (hbox);have n2_:=Q0.mk ((by rw [hg];exact (Qf (by repeat (first|(with_reducible first|exact HB.out|apply Q3|apply Q1|apply Q6)|exact HB.out))):w.heap.size≤ZY));have n3_:=n2_;clear HB;have HB:=n0_;have YT:=n1_;have qAF:=n2_;have ZV:=n3_;clear n0_ n1_ n2_ n3_ hb hbox hg;have Xk:w5.cell? ⟨ZY,0,none⟩=some (.slice Y3 Qb.length QG):=(Q8 YT.out 0).trans rfl;have Xl:w5.cell? ⟨ZY,1,none⟩=some (.slice Y1 Qh.length QI):=(Q8 YT.out 1).trans rfl;have qaK:w5.cell? ⟨ZY,2,none⟩=some (.slice Y5 Qd.length QJ):=(Q8 YT.out 2).trans rfl;have qd4:w5.cell? ⟨ZY,3,none⟩=some (.int .i64 Yd):=(Q8 YT.out 3).trans rfl;have qd5:w5.cell? ⟨ZY,4,none⟩=some (.int .i64 Ya):=(Q8 YT.out 4).trans rfl;have Xm:=Q9 YT.out 0;have Xn:=Q9 YT.out 1;have qaL:=Q9 YT.out 2;have qeg:=Q9 YT.out 3;have qeh:=Q9 YT.out 4)|((with_reducible refine QW (N:=8) rfl ?_);(try (refine Gq (by rfl) ?_;dsimp only));refine Yw ?hg (N:=8) ?hd (cs:=#[.slice none 0 0,.slice none 0 0,.slice none 0 0,.int .i64 0,.int .i64 0]) (t:=111) ?hr ?_;(case hd=>rfl);(case hg=>rfl);(case hr=>first|(go_simp;done)|(go_simp;rfl));intro YY hg w7 hbox hb;have n0_:=Q0.mk (Qe (g:=ZY) (by (with_reducible repeat (first|refine Q4 ?_ _|refine Q7 ?_|refine Q2 ?_ _));exact YT.out) hb);have n1_:=Q0.mk (Qm (by repeat (first|(with_reducible first|exact HB.out|apply Q3|apply Q1|apply Q6|refine Q5 ?_ ZV.out)|exact HB.out)) hb);have n2_:=Q0.mk (hbox);have n3_:=Q0.mk ((by rw [hg];exact (Qf (by repeat (first|(with_reducible first|exact HB.out|apply Q3|apply Q1|apply Q6|refine Q5 ?_ ZV.out)|exact HB.out))):w.heap.size≤YY));have n4_:=n3_;have n5_:=Q0.mk ((by rw [hg];exact Nat.ne_of_lt (QL (g:=ZY) (by (with_reducible repeat (first|refine Q4 ?_ _|refine Q7 ?_|refine Q2 ?_ _));exact YT.out)):ZY≠YY));have n6_:=Q0.mk (n5_.out.symm);clear YT HB;have YT:=n0_;have HB:=n1_;have QZ:=n2_;have qAG:=n3_;have J1:=n4_;have ZK:=n5_;have UC:=n6_;clear n0_ n1_ n2_ n3_ n4_ n5_ n6_ hb hbox hg;have qC7:=UC.out;have qC8:=ZK.out;have Kj:w7.cell? ⟨YY,0,none⟩=some (.slice none 0 0):=(Q8 QZ.out 0).trans rfl;have Kk:w7.cell? ⟨YY,1,none⟩=some (.slice none 0 0):=(Q8 QZ.out 1).trans rfl;have Kl:w7.cell? ⟨YY,2,none⟩=some (.slice none 0 0):=(Q8 QZ.out 2).trans rfl;have qd6:w7.cell? ⟨YY,3,none⟩=some (.int .i64 0):=(Q8 QZ.out 3).trans rfl;have qd7:w7.cell? ⟨YY,4,none⟩=some (.int .i64 0):=(Q8 QZ.out 4).trans rfl;have Kn:=Q9 QZ.out 0;have Ko:=Q9 QZ.out 1;have Kp:=Q9 QZ.out 2;have qei:=Q9 QZ.out 3;have qej:=Q9 QZ.out 4))
 (try simp only [Act.put,List.setIfInBounds_toArray,List.set_cons_zero,List.set_cons_succ])
 go_cut [9] (fun v9 wc => ∃ (kq:Nat) (qnT:Bool),v9 = .bool qnT∧Q0 (QC.j0 kq l1 l2 qnT Qb Qh Qd Yd Ya=some (r1,r2))∧Q0 (kq≤k)∧Q0 (wc.heap[ZY]? = some (.cells #[(.slice Y3 Qb.length QG),(.slice Y1 Qh.length QI),(.slice Y5 Qd.length QJ),.int .i64 Yd,.int .i64 Ya] 39 (0,0)))∧Q0 (wc.heap[YY]? = some (.cells #[(.slice Y3 Qb.length QG),(.slice Y1 Qh.length QI),(.slice Y5 Qd.length QJ),.int .i64 Yd,.int .i64 Ya] 111 (0,0)))∧Q0 (Below w.heap.size w wc))
 case first =>
  have H:=HC4.out
  clear HC4
  replace H:=Option.bind_eq_some_iff.mp H
  obtain ⟨t156,qjE,H⟩:=H
  replace H:(if t156=true then ((Qj.f (l1.length:Int) 1 10).bind fun t157=>(if t157=true then (QC.j0 k l1 l2 ((l2.length:Int)==(l1.length:Int)) Qb Qh Qd Yd Ya) else (QC.j0 k l1 l2 false Qb Qh Qd Yd Ya))) else (QC.j0 k l1 l2 false Qb Qh Qd Yd Ya))=some (r1,r2):=H
  have A10:=Q0.mk qjE
  clear qjE
  by_cases c11:t156=true
  ·
   subst c11
   have H1:((Qj.f (l1.length:Int) 1 10).bind fun t157=>(if t157=true then (QC.j0 k l1 l2 ((l2.length:Int)==(l1.length:Int)) Qb Qh Qd Yd Ya) else (QC.j0 k l1 l2 false Qb Qh Qd Yd Ya)))=some (r1,r2):=by rw [if_pos rfl] at H;exact H
   clear H
   have H:=H1
   clear H1
   replace H:=Option.bind_eq_some_iff.mp H
   obtain ⟨t157,qb4,H⟩:=H
   replace H:(if t157=true then (QC.j0 k l1 l2 ((l2.length:Int)==(l1.length:Int)) Qb Qh Qd Yd Ya) else (QC.j0 k l1 l2 false Qb Qh Qd Yd Ya))=some (r1,r2):=H
   have A12:=Q0.mk qb4
   clear qb4
   by_cases c13:t157=true
   ·
    subst c13
    have H1:(QC.j0 k l1 l2 ((l2.length:Int)==(l1.length:Int)) Qb Qh Qd Yd Ya)=some (r1,r2):=by rw [if_pos rfl] at H;exact H
    clear H;have H:=H1;clear H1;have H':=Q0.mk H;clear H;have qBn:=UC.out;have qBZ:=ZK.out;have Oi:w7.cell? ⟨YY,0,none⟩=some (.slice none 0 0):=(Q8 QZ.out 0).trans rfl;have Oj:w7.cell? ⟨YY,1,none⟩=some (.slice none 0 0):=(Q8 QZ.out 1).trans rfl;have U1:w7.cell? ⟨YY,2,none⟩=some (.slice none 0 0):=(Q8 QZ.out 2).trans rfl;have U2:w7.cell? ⟨YY,3,none⟩=some (.int .i64 0):=(Q8 QZ.out 3).trans rfl;have U3:w7.cell? ⟨YY,4,none⟩=some (.int .i64 0):=(Q8 QZ.out 4).trans rfl;have Oo:=Q9 QZ.out 0;have Oq:=Q9 QZ.out 1;have Ud:=Q9 QZ.out 2;have Ue:=Q9 QZ.out 3;have Uf:=Q9 QZ.out 4
    go_wp2_with (first|((with_reducible refine Qx (f:=76) rfl ?_);refine YL (some 20) rfl rfl Try.func76 (by kernel_rfl) rfl #[.agg #[.slice Y3 Qb.length QG,.slice Y1 Qh.length QI,.slice Y5 Qd.length QJ,.int .i64 Yd,.int .i64 Ya]] rfl (by (try simp only [List.map_toArray,List.map_cons,List.map_nil]);first|done|rfl|(simp only [List.length_drop,List.length_take];rfl)) ?_;(with_reducible refine (Ql.calls k _ _ Qb _ _ Qh _ _ Qd Yd Ya true _ ?side1 ?side2 ?side3 ?side4 ?side5 ?side6 A10.out).mono ?_);(case side1=>exact Kd.C_below Jt.out (by repeat (first|(with_reducible first|exact HB.out|apply Q3|apply Q1|apply Q6|refine Q5 ?_ ZV.out|refine Q5 ?_ J1.out)|exact HB.out)));(case side2=>exact JO.out);(case side3=>exact Kd.C_below JD.out (by repeat (first|(with_reducible first|exact HB.out|apply Q3|apply Q1|apply Q6|refine Q5 ?_ ZV.out|refine Q5 ?_ J1.out)|exact HB.out)));(case side4=>exact JP.out);(case side5=>exact Kd.C_below JE.out (by repeat (first|(with_reducible first|exact HB.out|apply Q3|apply Q1|apply Q6|refine Q5 ?_ ZV.out|refine Q5 ?_ J1.out)|exact HB.out)));(case side6=>exact JQ.out);rintro e w16 ⟨rfl,hb⟩;refine ⟨_,rfl,?_⟩;have n0_:=Q0.mk (Qe (g:=ZY) (o:=.cells #[.slice Y3 Qb.length QG,.slice Y1 Qh.length QI,.slice Y5 Qd.length QJ,.int .i64 Yd,.int .i64 Ya] 39 (0,0)) (by (with_reducible repeat (first|refine Q4 ?_ _|refine Q7 ?_|refine Q2 ?_ _));refine Qk ?_ ZK.out _;(with_reducible repeat (first|refine Q4 ?_ _|refine Q7 ?_|refine Q2 ?_ _));refine Qk ?_ ZK.out _;(with_reducible repeat (first|refine Q4 ?_ _|refine Q7 ?_|refine Q2 ?_ _));refine Qk ?_ ZK.out _;(with_reducible repeat (first|refine Q4 ?_ _|refine Q7 ?_|refine Q2 ?_ _));refine Qk ?_ ZK.out _;(with_reducible repeat (first|refine Q4 ?_ _|refine Q7 ?_|refine Q2 ?_ _));refine Qk ?_ ZK.out _;(with_reducible repeat (first|refine Q4 ?_ _|refine Q7 ?_|refine Q2 ?_ _));exact YT.out) hb);have n1_:=Q0.mk (Qe (g:=YY) (o:=.cells #[.slice Y3 Qb.length QG,.slice Y1 Qh.length QI,.slice Y5 Qd.length QJ,.int .i64 Yd,.int .i64 Ya] 111 (0,0)) (by (with_reducible repeat (first|refine Q4 ?_ _|refine Q7 ?_|refine Q2 ?_ _));refine Qu (cs:=#[.slice Y3 Qb.length QG,.slice Y1 Qh.length QI,.slice Y5 Qd.length QJ,.int .i64 Yd,.int .i64 0]) ?_ 4 _ rfl;(with_reducible repeat (first|refine Q4 ?_ _|refine Q7 ?_|refine Q2 ?_ _));refine Qu (cs:=#[.slice Y3 Qb.length QG,.slice Y1 Qh.length QI,.slice Y5 Qd.length QJ,.int .i64 0,.int .i64 0]) ?_ 3 _ rfl;(with_reducible repeat (first|refine Q4 ?_ _|refine Q7 ?_|refine Q2 ?_ _));refine Qu (cs:=#[.slice Y3 Qb.length QG,.slice Y1 Qh.length QI,.slice none 0 0,.int .i64 0,.int .i64 0]) ?_ 2 _ rfl;(with_reducible repeat (first|refine Q4 ?_ _|refine Q7 ?_|refine Q2 ?_ _));refine Qu (cs:=#[.slice Y3 Qb.length QG,.slice none 0 0,.slice none 0 0,.int .i64 0,.int .i64 0]) ?_ 1 _ rfl;(with_reducible repeat (first|refine Q4 ?_ _|refine Q7 ?_|refine Q2 ?_ _));refine Qu (cs:=#[.slice none 0 0,.slice none 0 0,.slice none 0 0,.int .i64 0,.int .i64 0]) ?_ 0 _ rfl;(with_reducible repeat (first|refine Q4 ?_ _|refine Q7 ?_|refine Q2 ?_ _));exact QZ.out) hb);have n2_:=Q0.mk (Qm (by repeat (first|(with_reducible first|exact HB.out|apply Q3|apply Q1|apply Q6|refine Q5 ?_ ZV.out|refine Q5 ?_ J1.out)|exact HB.out)) hb);clear YT QZ HB;have YT:=n0_;have QZ:=n1_;have HB:=n2_;clear n0_ n1_ n2_;(try clear hb);(try clear hb2);(try clear hk);(try clear hi))|(go_at_call 65;(with_reducible refine (Qj.calls (l1.length:Int) 1 10 true _ A12.out).mono ?_);rintro e w' ⟨rfl,⟨nd,rfl⟩⟩))
    go_meet
    case rel=>exact ⟨_,(((l2.length:Int)==(l1.length:Int))),(by first|rfl|(simp;done)|(simp [*];done)),H',⟨by first|omega|exact Nat.le_refl _⟩,⟨by (with_reducible repeat (first|refine Q4 ?_ _|refine Q7 ?_|refine Q2 ?_ _));exact YT.out⟩,⟨by (with_reducible repeat (first|refine Q4 ?_ _|refine Q7 ?_|refine Q2 ?_ _));exact QZ.out⟩,⟨by repeat (first|(with_reducible first|exact HB.out|apply Q3|apply Q1|apply Q6|refine Q5 ?_ ZV.out|refine Q5 ?_ J1.out)|exact HB.out)⟩⟩
   replace c13:=Bool.eq_false_iff.mpr c13
   subst c13
   have H1:(QC.j0 k l1 l2 false Qb Qh Qd Yd Ya)=some (r1,r2):=by rw [if_neg (show ¬ (false=true) by decide)] at H;exact H
   clear H
   have H:=H1
   clear H1
   have H':=Q0.mk H
   clear H
   have qsB:=UC.out
   have qsP:=ZK.out
   have U4:w7.cell? ⟨YY,0,none⟩=some (.slice none 0 0):=(Q8 QZ.out 0).trans rfl
   have U5:w7.cell? ⟨YY,1,none⟩=some (.slice none 0 0):=(Q8 QZ.out 1).trans rfl
   have U6:w7.cell? ⟨YY,2,none⟩=some (.slice none 0 0):=(Q8 QZ.out 2).trans rfl
   have qbu:w7.cell? ⟨YY,3,none⟩=some (.int .i64 0):=(Q8 QZ.out 3).trans rfl
   have qbv:w7.cell? ⟨YY,4,none⟩=some (.int .i64 0):=(Q8 QZ.out 4).trans rfl
   have Ug:=Q9 QZ.out 0
   have Uh:=Q9 QZ.out 1
   have Ui:=Q9 QZ.out 2
   have qbF:=Q9 QZ.out 3
   have qbG:=Q9 QZ.out 4
   go_wp2_with (first|((with_reducible refine Qx (f:=76) rfl ?_);refine YL (some 20) rfl rfl Try.func76 (by kernel_rfl) rfl #[.agg #[.slice Y3 Qb.length QG,.slice Y1 Qh.length QI,.slice Y5 Qd.length QJ,.int .i64 Yd,.int .i64 Ya]] rfl (by (try simp only [List.map_toArray,List.map_cons,List.map_nil]);first|done|rfl|(simp only [List.length_drop,List.length_take];rfl)) ?_;(with_reducible refine (Ql.calls k _ _ Qb _ _ Qh _ _ Qd Yd Ya true _ ?side1 ?side2 ?side3 ?side4 ?side5 ?side6 A10.out).mono ?_);(case side1=>exact Kd.C_below Jt.out (by repeat (first|(with_reducible first|exact HB.out|apply Q3|apply Q1|apply Q6|refine Q5 ?_ ZV.out|refine Q5 ?_ J1.out)|exact HB.out)));(case side2=>exact JO.out);(case side3=>exact Kd.C_below JD.out (by repeat (first|(with_reducible first|exact HB.out|apply Q3|apply Q1|apply Q6|refine Q5 ?_ ZV.out|refine Q5 ?_ J1.out)|exact HB.out)));(case side4=>exact JP.out);(case side5=>exact Kd.C_below JE.out (by repeat (first|(with_reducible first|exact HB.out|apply Q3|apply Q1|apply Q6|refine Q5 ?_ ZV.out|refine Q5 ?_ J1.out)|exact HB.out)));(case side6=>exact JQ.out);rintro e w19 ⟨rfl,hb⟩;refine ⟨_,rfl,?_⟩;have n0_:=Q0.mk (Qe (g:=ZY) (o:=.cells #[.slice Y3 Qb.length QG,.slice Y1 Qh.length QI,.slice Y5 Qd.length QJ,.int .i64 Yd,.int .i64 Ya] 39 (0,0)) (by (with_reducible repeat (first|refine Q4 ?_ _|refine Q7 ?_|refine Q2 ?_ _));refine Qk ?_ ZK.out _;(with_reducible repeat (first|refine Q4 ?_ _|refine Q7 ?_|refine Q2 ?_ _));refine Qk ?_ ZK.out _;(with_reducible repeat (first|refine Q4 ?_ _|refine Q7 ?_|refine Q2 ?_ _));refine Qk ?_ ZK.out _;(with_reducible repeat (first|refine Q4 ?_ _|refine Q7 ?_|refine Q2 ?_ _));refine Qk ?_ ZK.out _;(with_reducible repeat (first|refine Q4 ?_ _|refine Q7 ?_|refine Q2 ?_ _));refine Qk ?_ ZK.out _;(with_reducible repeat (first|refine Q4 ?_ _|refine Q7 ?_|refine Q2 ?_ _));exact YT.out) hb);have n1_:=Q0.mk (Qe (g:=YY) (o:=.cells #[.slice Y3 Qb.length QG,.slice Y1 Qh.length QI,.slice Y5 Qd.length QJ,.int .i64 Yd,.int .i64 Ya] 111 (0,0)) (by (with_reducible repeat (first|refine Q4 ?_ _|refine Q7 ?_|refine Q2 ?_ _));refine Qu (cs:=#[.slice Y3 Qb.length QG,.slice Y1 Qh.length QI,.slice Y5 Qd.length QJ,.int .i64 Yd,.int .i64 0]) ?_ 4 _ rfl;(with_reducible repeat (first|refine Q4 ?_ _|refine Q7 ?_|refine Q2 ?_ _));refine Qu (cs:=#[.slice Y3 Qb.length QG,.slice Y1 Qh.length QI,.slice Y5 Qd.length QJ,.int .i64 0,.int .i64 0]) ?_ 3 _ rfl;(with_reducible repeat (first|refine Q4 ?_ _|refine Q7 ?_|refine Q2 ?_ _));refine Qu (cs:=#[.slice Y3 Qb.length QG,.slice Y1 Qh.length QI,.slice none 0 0,.int .i64 0,.int .i64 0]) ?_ 2 _ rfl;(with_reducible repeat (first|refine Q4 ?_ _|refine Q7 ?_|refine Q2 ?_ _));refine Qu (cs:=#[.slice Y3 Qb.length QG,.slice none 0 0,.slice none 0 0,.int .i64 0,.int .i64 0]) ?_ 1 _ rfl;(with_reducible repeat (first|refine Q4 ?_ _|refine Q7 ?_|refine Q2 ?_ _));refine Qu (cs:=#[.slice none 0 0,.slice none 0 0,.slice none 0 0,.int .i64 0,.int .i64 0]) ?_ 0 _ rfl;(with_reducible repeat (first|refine Q4 ?_ _|refine Q7 ?_|refine Q2 ?_ _));exact QZ.out) hb);have n2_:=Q0.mk (Qm (by repeat (first|(with_reducible first|exact HB.out|apply Q3|apply Q1|apply Q6|refine Q5 ?_ ZV.out|refine Q5 ?_ J1.out)|exact HB.out)) hb);clear YT QZ HB;have YT:=n0_;have QZ:=n1_;have HB:=n2_;clear n0_ n1_ n2_;(try clear hb);(try clear hb2);(try clear hk);(try clear hi))|(go_at_call 65;(with_reducible refine (Qj.calls (l1.length:Int) 1 10 false _ A12.out).mono ?_);rintro e w' ⟨rfl,⟨nd,rfl⟩⟩))
   go_meet
   case rel=>exact ⟨_,(false),(by first|rfl|(simp;done)|(simp [*];done)),H',⟨by first|omega|exact Nat.le_refl _⟩,⟨by (with_reducible repeat (first|refine Q4 ?_ _|refine Q7 ?_|refine Q2 ?_ _));exact YT.out⟩,⟨by (with_reducible repeat (first|refine Q4 ?_ _|refine Q7 ?_|refine Q2 ?_ _));exact QZ.out⟩,⟨by repeat (first|(with_reducible first|exact HB.out|apply Q3|apply Q1|apply Q6|refine Q5 ?_ ZV.out|refine Q5 ?_ J1.out)|exact HB.out)⟩⟩
  replace c11:=Bool.eq_false_iff.mpr c11
  subst c11
  have H1:(QC.j0 k l1 l2 false Qb Qh Qd Yd Ya)=some (r1,r2):=by rw [if_neg (show ¬ (false=true) by decide)] at H;exact H
  clear H
  have H:=H1
  clear H1
  have H':=Q0.mk H
  clear H
  have qsC:=UC.out
  have qsQ:=ZK.out
  have Ol:w7.cell? ⟨YY,0,none⟩=some (.slice none 0 0):=(Q8 QZ.out 0).trans rfl
  have Om:w7.cell? ⟨YY,1,none⟩=some (.slice none 0 0):=(Q8 QZ.out 1).trans rfl
  have On:w7.cell? ⟨YY,2,none⟩=some (.slice none 0 0):=(Q8 QZ.out 2).trans rfl
  have qbw:w7.cell? ⟨YY,3,none⟩=some (.int .i64 0):=(Q8 QZ.out 3).trans rfl
  have qbx:w7.cell? ⟨YY,4,none⟩=some (.int .i64 0):=(Q8 QZ.out 4).trans rfl
  have Ot:=Q9 QZ.out 0
  have Ou:=Q9 QZ.out 1
  have Ov:=Q9 QZ.out 2
  have qbH:=Q9 QZ.out 3
  have qbI:=Q9 QZ.out 4
  go_wp2_with (first|((with_reducible refine Qx (f:=76) rfl ?_);refine YL (some 20) rfl rfl Try.func76 (by kernel_rfl) rfl #[.agg #[.slice Y3 Qb.length QG,.slice Y1 Qh.length QI,.slice Y5 Qd.length QJ,.int .i64 Yd,.int .i64 Ya]] rfl (by (try simp only [List.map_toArray,List.map_cons,List.map_nil]);first|done|rfl|(simp only [List.length_drop,List.length_take];rfl)) ?_;(with_reducible refine (Ql.calls k _ _ Qb _ _ Qh _ _ Qd Yd Ya false _ ?side1 ?side2 ?side3 ?side4 ?side5 ?side6 A10.out).mono ?_);(case side1=>exact Kd.C_below Jt.out (by repeat (first|(with_reducible first|exact HB.out|apply Q3|apply Q1|apply Q6|refine Q5 ?_ ZV.out|refine Q5 ?_ J1.out)|exact HB.out)));(case side2=>exact JO.out);(case side3=>exact Kd.C_below JD.out (by repeat (first|(with_reducible first|exact HB.out|apply Q3|apply Q1|apply Q6|refine Q5 ?_ ZV.out|refine Q5 ?_ J1.out)|exact HB.out)));(case side4=>exact JP.out);(case side5=>exact Kd.C_below JE.out (by repeat (first|(with_reducible first|exact HB.out|apply Q3|apply Q1|apply Q6|refine Q5 ?_ ZV.out|refine Q5 ?_ J1.out)|exact HB.out)));(case side6=>exact JQ.out);rintro e w22 ⟨rfl,hb⟩;refine ⟨_,rfl,?_⟩;have n0_:=Q0.mk (Qe (g:=ZY) (o:=.cells #[.slice Y3 Qb.length QG,.slice Y1 Qh.length QI,.slice Y5 Qd.length QJ,.int .i64 Yd,.int .i64 Ya] 39 (0,0)) (by (with_reducible repeat (first|refine Q4 ?_ _|refine Q7 ?_|refine Q2 ?_ _));refine Qk ?_ ZK.out _;(with_reducible repeat (first|refine Q4 ?_ _|refine Q7 ?_|refine Q2 ?_ _));refine Qk ?_ ZK.out _;(with_reducible repeat (first|refine Q4 ?_ _|refine Q7 ?_|refine Q2 ?_ _));refine Qk ?_ ZK.out _;(with_reducible repeat (first|refine Q4 ?_ _|refine Q7 ?_|refine Q2 ?_ _));refine Qk ?_ ZK.out _;(with_reducible repeat (first|refine Q4 ?_ _|refine Q7 ?_|refine Q2 ?_ _));refine Qk ?_ ZK.out _;(with_reducible repeat (first|refine Q4 ?_ _|refine Q7 ?_|refine Q2 ?_ _));exact YT.out) hb);have n1_:=Q0.mk (Qe (g:=YY) (o:=.cells #[.slice Y3 Qb.length QG,.slice Y1 Qh.length QI,.slice Y5 Qd.length QJ,.int .i64 Yd,.int .i64 Ya] 111 (0,0)) (by (with_reducible repeat (first|refine Q4 ?_ _|refine Q7 ?_|refine Q2 ?_ _));refine Qu (cs:=#[.slice Y3 Qb.length QG,.slice Y1 Qh.length QI,.slice Y5 Qd.length QJ,.int .i64 Yd,.int .i64 0]) ?_ 4 _ rfl;(with_reducible repeat (first|refine Q4 ?_ _|refine Q7 ?_|refine Q2 ?_ _));refine Qu (cs:=#[.slice Y3 Qb.length QG,.slice Y1 Qh.length QI,.slice Y5 Qd.length QJ,.int .i64 0,.int .i64 0]) ?_ 3 _ rfl;(with_reducible repeat (first|refine Q4 ?_ _|refine Q7 ?_|refine Q2 ?_ _));refine Qu (cs:=#[.slice Y3 Qb.length QG,.slice Y1 Qh.length QI,.slice none 0 0,.int .i64 0,.int .i64 0]) ?_ 2 _ rfl;(with_reducible repeat (first|refine Q4 ?_ _|refine Q7 ?_|refine Q2 ?_ _));refine Qu (cs:=#[.slice Y3 Qb.length QG,.slice none 0 0,.slice none 0 0,.int .i64 0,.int .i64 0]) ?_ 1 _ rfl;(with_reducible repeat (first|refine Q4 ?_ _|refine Q7 ?_|refine Q2 ?_ _));refine Qu (cs:=#[.slice none 0 0,.slice none 0 0,.slice none 0 0,.int .i64 0,.int .i64 0]) ?_ 0 _ rfl;(with_reducible repeat (first|refine Q4 ?_ _|refine Q7 ?_|refine Q2 ?_ _));exact QZ.out) hb);have n2_:=Q0.mk (Qm (by repeat (first|(with_reducible first|exact HB.out|apply Q3|apply Q1|apply Q6|refine Q5 ?_ ZV.out|refine Q5 ?_ J1.out)|exact HB.out)) hb);clear YT QZ HB;have YT:=n0_;have QZ:=n1_;have HB:=n2_;clear n0_ n1_ n2_;(try clear hb);(try clear hb2);(try clear hk);(try clear hi)))
  go_meet
  case rel=>exact ⟨_,(false),(by first|rfl|(simp;done)|(simp [*];done)),H',⟨by first|omega|exact Nat.le_refl _⟩,⟨by (with_reducible repeat (first|refine Q4 ?_ _|refine Q7 ?_|refine Q2 ?_ _));exact YT.out⟩,⟨by (with_reducible repeat (first|refine Q4 ?_ _|refine Q7 ?_|refine Q2 ?_ _));exact QZ.out⟩,⟨by repeat (first|(with_reducible first|exact HB.out|apply Q3|apply Q1|apply Q6|refine Q5 ?_ ZV.out|refine Q5 ?_ J1.out)|exact HB.out)⟩⟩
 case rest =>
  clear HC4
  try clear c1
  try clear c2
  try clear p2
  try clear c7
  try clear c8
  try clear c11
  try clear c13
  try clear c14
  try clear c17
  try clear c20
  try clear Oi
  try clear Oj
  try clear U1
  try clear U2
  try clear U3
  try clear U4
  try clear U5
  try clear U6
  try clear qbu
  try clear qbv
  try clear Ol
  try clear Om
  try clear On
  try clear qbw
  try clear qbx
  try clear Xk
  try clear Xl
  try clear qaK
  try clear qd4
  try clear qd5
  try clear Kj
  try clear Kk
  try clear Kl
  try clear qd6
  try clear qd7
  try clear Oo
  try clear Oq
  try clear Ud
  try clear Ue
  try clear Uf
  try clear Ug
  try clear Uh
  try clear Ui
  try clear qbF
  try clear qbG
  try clear Ot
  try clear Ou
  try clear Ov
  try clear qbH
  try clear qbI
  try clear Xm
  try clear Xn
  try clear qaL
  try clear qeg
  try clear qeh
  try clear Kn
  try clear Ko
  try clear Kp
  try clear qei
  try clear qej
  obtain ⟨kq,qnT,rfl,HA,HJ3,YT,QZ,HB⟩:=hcut
  cases kq with
  | zero=>exact absurd HA.out (by simp [QC.j0])
  | succ kj3 =>
   have H:=HA.out
   clear HA
   simp only [QC.j0] at H
   have H':=Q0.mk H
   clear H
   go_wp2
   go_loopg [9,10] kj3 (fun kq v9 v10 w' => ∃ (Wc:Bool) (Zp:Int),v9 = .bool Wc∧v10 = .int .i64 Zp∧Q0 (QC.l0 kq l1 l2 Wc Zp Qb Qh Qd Yd Ya=some (r1,r2))∧Q0 (kq≤kj3)∧Q0 (w'.heap[ZY]? = some (.cells #[(.slice Y3 Qb.length QG),(.slice Y1 Qh.length QI),(.slice Y5 Qd.length QJ),.int .i64 Yd,.int .i64 Ya] 39 (0,0)))∧Q0 (w'.heap[YY]? = some (.cells #[(.slice Y3 Qb.length QG),(.slice Y1 Qh.length QI),(.slice Y5 Qd.length QJ),.int .i64 Yd,.int .i64 Ya] 111 (0,0)))∧Q0 (Below w.heap.size w w'))
   case atStart=>exact ⟨(qnT),(0),(by first|rfl|(simp;done)|(simp [*];done)),(by first|rfl|(simp;done)|(simp [*];done)),H',⟨Nat.le_refl _⟩,⟨by (with_reducible repeat (first|refine Q4 ?_ _|refine Q7 ?_|refine Q2 ?_ _));exact YT.out⟩,⟨by (with_reducible repeat (first|refine Q4 ?_ _|refine Q7 ?_|refine Q2 ?_ _));exact QZ.out⟩,⟨by repeat (first|(with_reducible first|exact HB.out|apply Q3|apply Q1|apply Q6|refine Q5 ?_ ZV.out|refine Q5 ?_ J1.out)|exact HB.out)⟩⟩
   case round =>
    clear H';(try clear c1);(try clear c2);(try clear p2);(try clear c7);(try clear c8);(try clear c11);(try clear c13);(try clear c14);(try clear c17);(try clear c20);(try clear Oi);(try clear Oj);(try clear U1);(try clear U2);(try clear U3);(try clear U4);(try clear U5);(try clear U6);(try clear qbu);(try clear qbv);(try clear Ol);(try clear Om);(try clear On);(try clear qbw);(try clear qbx);(try clear Xk);(try clear Xl);(try clear qaK);(try clear qd4);(try clear qd5);(try clear Kj);(try clear Kk);(try clear Kl);(try clear qd6);(try clear qd7);(try clear Oo);(try clear Oq);(try clear Ud);(try clear Ue);(try clear Uf);(try clear Ug);(try clear Uh);(try clear Ui);(try clear qbF);(try clear qbG);(try clear Ot);(try clear Ou);(try clear Ov);(try clear qbH);(try clear qbI);(try clear Xm);(try clear Xn);(try clear qaL);(try clear qeg);(try clear qeh);(try clear Kn);(try clear Ko);(try clear Kp);(try clear qei);(try clear qej);(try clear p2);obtain ⟨Wc,Zp,rfl,rfl,HA,HK2,YT,QZ,HB⟩:=hrel
    cases gk with
    | zero=>exact absurd HA.out (by simp [QC.l0])
    | succ k2 =>
     have H:=HA.out;clear HA;simp only [QC.l0] at H;have qb8:=Q0.mk H;clear H
     go_upto_region 4 with (fail)
     go_cut [39] (fun v39 wc => ∃ (kq:Nat) (qeU:Bool),v39 = .bool qeU∧Q0 (QC.j2 kq l1 l2 Wc Zp qeU Qb Qh Qd Yd Ya=some (r1,r2))∧Q0 (kq≤k2)∧Q0 (wc.heap[ZY]? = some (.cells #[(.slice Y3 Qb.length QG),(.slice Y1 Qh.length QI),(.slice Y5 Qd.length QJ),.int .i64 Yd,.int .i64 Ya] 39 (0,0)))∧Q0 (wc.heap[YY]? = some (.cells #[(.slice Y3 Qb.length QG),(.slice Y1 Qh.length QI),(.slice Y5 Qd.length QJ),.int .i64 Yd,.int .i64 Ya] 111 (0,0)))∧Q0 (Below w.heap.size w wc))
     case first =>
      have H:=qb8.out;clear qb8
      by_cases c24:Wc=true
      ·
       subst c24
       have H1:(QC.j2 k2 l1 l2 true Zp (decide (Zp<(l1.length:Int))) Qb Qh Qd Yd Ya)=some (r1,r2):=by rw [if_pos rfl] at H;exact H
       clear H;have H:=H1;clear H1;have H':=Q0.mk H;clear H
       go_wp2
       go_meet
       case rel=>exact ⟨_,(decide (Zp<(l1.length:Int))),(by first|rfl|(simp;done)|(simp [*];done)),H',⟨by have:=HJ3.out;have:=HK2.out;first|omega|exact Nat.le_refl _⟩,⟨by (with_reducible repeat (first|refine Q4 ?_ _|refine Q7 ?_|refine Q2 ?_ _));exact YT.out⟩,⟨by (with_reducible repeat (first|refine Q4 ?_ _|refine Q7 ?_|refine Q2 ?_ _));exact QZ.out⟩,⟨by repeat (first|(with_reducible first|exact HB.out|apply Q3|apply Q1|apply Q6|refine Q5 ?_ ZV.out|refine Q5 ?_ J1.out)|exact HB.out)⟩⟩
      replace c24:=Bool.eq_false_iff.mpr c24;subst c24
      have H1:(QC.j2 k2 l1 l2 false Zp false Qb Qh Qd Yd Ya)=some (r1,r2):=by rw [if_neg (show ¬ (false=true) by decide)] at H;exact H
      clear H;have H:=H1;clear H1;have H':=Q0.mk H;clear H
      go_wp2
      go_meet
      case rel=>exact ⟨_,(false),(by first|rfl|(simp;done)|(simp [*];done)),H',⟨by have:=HJ3.out;have:=HK2.out;first|omega|exact Nat.le_refl _⟩,⟨by (with_reducible repeat (first|refine Q4 ?_ _|refine Q7 ?_|refine Q2 ?_ _));exact YT.out⟩,⟨by (with_reducible repeat (first|refine Q4 ?_ _|refine Q7 ?_|refine Q2 ?_ _));exact QZ.out⟩,⟨by repeat (first|(with_reducible first|exact HB.out|apply Q3|apply Q1|apply Q6|refine Q5 ?_ ZV.out|refine Q5 ?_ J1.out)|exact HB.out)⟩⟩
     case rest =>
      clear qb8;(try clear c1);(try clear c2);(try clear p2);(try clear c7);(try clear c8);(try clear c11);(try clear c13);(try clear c14);(try clear c17);(try clear c20);(try clear c24);(try clear Oi);(try clear Oj);(try clear U1);(try clear U2);(try clear U3);(try clear U4);(try clear U5);(try clear U6);(try clear qbu);(try clear qbv);(try clear Ol);(try clear Om);(try clear On);(try clear qbw);(try clear qbx);(try clear Xk);(try clear Xl);(try clear qaK);(try clear qd4);(try clear qd5);(try clear Kj);(try clear Kk);(try clear Kl);(try clear qd6);(try clear qd7);(try clear Oo);(try clear Oq);(try clear Ud);(try clear Ue);(try clear Uf);(try clear Ug);(try clear Uh);(try clear Ui);(try clear qbF);(try clear qbG);(try clear Ot);(try clear Ou);(try clear Ov);(try clear qbH);(try clear qbI);(try clear Xm);(try clear Xn);(try clear qaL);(try clear qeg);(try clear qeh);(try clear Kn);(try clear Ko);(try clear Kp);(try clear qei);(try clear qej);(try clear p2);obtain ⟨kq,qeU,rfl,HA,Kw,YT,QZ,HB⟩:=hcut
      cases kq with
      | zero=>exact absurd HA.out (by simp [QC.j2])
      | succ OO =>
       have H:=HA.out;clear HA;simp only [QC.j2] at H
       by_cases c25:qeU=true
       ·
        subst c25
        have H1:(if 0≤Zp then (if Zp<(l1.length:Int) then ((Qj.f (rd l1 Zp) 0 100000000).bind fun t159=>(if t159=true then (if Zp<(l2.length:Int) then ((Qj.f (rd l2 Zp) 0 100000).bind fun qcL=>(QC.l0 OO l1 l2 qcL (wrap64 (Zp+1)) Qb Qh Qd Yd Ya)) else (none)) else (QC.l0 OO l1 l2 false (wrap64 (Zp+1)) Qb Qh Qd Yd Ya))) else (none)) else (none))=some (r1,r2):=by rw [if_pos rfl] at H;exact H
        clear H;have H:=H1;clear H1
        by_cases c26:0≤Zp
        ·
         rw [if_pos c26] at H;have c26b0:decide (0≤Zp)=true:=decide_eq_true c26;clear c26
         by_cases c27:Zp<(l1.length:Int)
         ·
          rw [if_pos c27] at H;have c27b0:decide (Zp<(l1.length:Int))=true:=decide_eq_true c27;clear c27;replace H:=Option.bind_eq_some_iff.mp H;obtain ⟨t159,qqf,H⟩:=H;replace H:(if t159=true then (if Zp<(l2.length:Int) then ((Qj.f (rd l2 Zp) 0 100000).bind fun qcL=>(QC.l0 OO l1 l2 qcL (wrap64 (Zp+1)) Qb Qh Qd Yd Ya)) else (none)) else (QC.l0 OO l1 l2 false (wrap64 (Zp+1)) Qb Qh Qd Yd Ya))=some (r1,r2):=H;have A28:=Q0.mk qqf;clear qqf
          by_cases c29:t159=true
          ·
           subst c29
           have H1:(if Zp<(l2.length:Int) then ((Qj.f (rd l2 Zp) 0 100000).bind fun qcL=>(QC.l0 OO l1 l2 qcL (wrap64 (Zp+1)) Qb Qh Qd Yd Ya)) else (none))=some (r1,r2):=by rw [if_pos rfl] at H;exact H
           clear H;have H:=H1;clear H1
           by_cases c30:Zp<(l2.length:Int)
           ·
            rw [if_pos c30] at H;have c30b0:decide (Zp<(l2.length:Int))=true:=decide_eq_true c30;clear c30;replace H:=Option.bind_eq_some_iff.mp H;obtain ⟨qcL,qjG,H⟩:=H;replace H:(QC.l0 OO l1 l2 qcL (wrap64 (Zp+1)) Qb Qh Qd Yd Ya)=some (r1,r2):=H;have A31:=Q0.mk qjG;clear qjG;have H':=Q0.mk H;clear H;have qf0:0≤(Zp:Int):=of_decide_eq_true (by first|(with_reducible assumption)|assumption);have qf2:Zp<(l1.length:Int):=of_decide_eq_true (by first|(with_reducible assumption)|assumption);obtain ⟨qqX,qpn,Uj⟩:=Kd.at_int HR1.out Zp qf0 qf2;cases qpn;replace Uj:=(HB.out.cell (World.block_lt_of_cell? w _ Uj)).trans Uj;replace qf0:=eq_true qf0;replace qf2:=eq_true qf2
            go_wp2_with (first|((with_reducible refine Qx (f:=65) rfl ?_);refine YL (some 46) rfl rfl Try.func65 (by kernel_rfl) rfl #[.int .i64 (rd l1 Zp),.int .i64 0,.int .i64 100000000] rfl (by (try simp only [List.map_toArray,List.map_cons,List.map_nil]);first|done|rfl|(simp only [List.length_drop,List.length_take];rfl)) ?_;(with_reducible refine (Qj.calls (rd l1 Zp) 0 100000000 true _ A28.out).mono ?_);rintro e w' ⟨rfl,⟨nd,rfl⟩⟩;refine ⟨_,rfl,?_⟩;have qns:0≤(Zp:Int):=of_decide_eq_true (by first|(with_reducible assumption)|assumption);have qnz:Zp<(l2.length:Int):=of_decide_eq_true (by first|(with_reducible assumption)|assumption);obtain ⟨qAT,qzt,qbU⟩:=Kd.at_int HR2.out Zp qns qnz;cases qzt;replace qbU:=(HB.out.cell (World.block_lt_of_cell? w _ qbU)).trans qbU;replace qns:=eq_true qns;replace qnz:=eq_true qnz)|(go_at_call 65;(with_reducible refine (Qj.calls (rd l2 Zp) 0 100000 qcL _ A31.out).mono ?_);rintro e w' ⟨rfl,⟨nd,rfl⟩⟩))
            go_roundg OO
            case measure=>have:=HJ3.out;have:=HK2.out;have:=Kw.out;omega
            case rel=>exact ⟨(qcL),(wrap64 (Zp+1)),(by first|rfl|(simp;done)|(simp [*];done)),(by first|rfl|(simp;done)|(simp [*];done)),H',⟨by have:=HJ3.out;have:=HK2.out;have:=Kw.out;omega⟩,⟨by (with_reducible repeat (first|refine Q4 ?_ _|refine Q7 ?_|refine Q2 ?_ _));exact YT.out⟩,⟨by (with_reducible repeat (first|refine Q4 ?_ _|refine Q7 ?_|refine Q2 ?_ _));exact QZ.out⟩,⟨by repeat (first|(with_reducible first|exact HB.out|apply Q3|apply Q1|apply Q6|refine Q5 ?_ ZV.out|refine Q5 ?_ J1.out)|exact HB.out)⟩⟩
           rw [if_neg c30] at H
           exact absurd H (by simp)
          replace c29:=Bool.eq_false_iff.mpr c29;subst c29
          have H1:(QC.l0 OO l1 l2 false (wrap64 (Zp+1)) Qb Qh Qd Yd Ya)=some (r1,r2):=by rw [if_neg (show ¬ (false=true) by decide)] at H;exact H
          clear H;have H:=H1;clear H1;have H':=Q0.mk H;clear H;have qf0:0≤(Zp:Int):=of_decide_eq_true (by first|(with_reducible assumption)|assumption);have qf2:Zp<(l1.length:Int):=of_decide_eq_true (by first|(with_reducible assumption)|assumption);obtain ⟨qqX,qpn,Uj⟩:=Kd.at_int HR1.out Zp qf0 qf2;cases qpn;replace Uj:=(HB.out.cell (World.block_lt_of_cell? w _ Uj)).trans Uj;replace qf0:=eq_true qf0;replace qf2:=eq_true qf2
          go_wp2_with (first|((with_reducible refine Qx (f:=65) rfl ?_);refine YL (some 46) rfl rfl Try.func65 (by kernel_rfl) rfl #[.int .i64 (rd l1 Zp),.int .i64 0,.int .i64 100000000] rfl (by (try simp only [List.map_toArray,List.map_cons,List.map_nil]);first|done|rfl|(simp only [List.length_drop,List.length_take];rfl)) ?_;(with_reducible refine (Qj.calls (rd l1 Zp) 0 100000000 false _ A28.out).mono ?_);rintro e w' ⟨rfl,⟨nd,rfl⟩⟩;refine ⟨_,rfl,?_⟩))
          go_roundg OO
          case measure=>have:=HJ3.out;have:=HK2.out;have:=Kw.out;omega
          case rel=>exact ⟨(false),(wrap64 (Zp+1)),(by first|rfl|(simp;done)|(simp [*];done)),(by first|rfl|(simp;done)|(simp [*];done)),H',⟨by have:=HJ3.out;have:=HK2.out;have:=Kw.out;omega⟩,⟨by (with_reducible repeat (first|refine Q4 ?_ _|refine Q7 ?_|refine Q2 ?_ _));exact YT.out⟩,⟨by (with_reducible repeat (first|refine Q4 ?_ _|refine Q7 ?_|refine Q2 ?_ _));exact QZ.out⟩,⟨by repeat (first|(with_reducible first|exact HB.out|apply Q3|apply Q1|apply Q6|refine Q5 ?_ ZV.out|refine Q5 ?_ J1.out)|exact HB.out)⟩⟩
         rw [if_neg c27] at H
         exact absurd H (by simp)
        rw [if_neg c26] at H
        exact absurd H (by simp)
       replace c25:=Bool.eq_false_iff.mpr c25;subst c25
       have H1:(if Wc=true then ((Zc.f Qb Qh Qd Yd Ya).bind fun Ks=>(QC.l1 OO l1 l2 ([]:List Int) (l1.length:Int) 0 Qb Qh Qd Yd Ya Ks.1 Ks.2.1 Ks.2.2.1 Ks.2.2.2.1 Ks.2.2.2.2.1 Ks.2.2.2.2.2)) else (some (([]:List Int),92)))=some (r1,r2):=by rw [if_neg (show ¬ (false=true) by decide)] at H;exact H
       clear H;have H:=H1;clear H1
       by_cases c32:Wc=true
       ·
        subst c32
        have H1:((Zc.f Qb Qh Qd Yd Ya).bind fun Ks=>(QC.l1 OO l1 l2 ([]:List Int) (l1.length:Int) 0 Qb Qh Qd Yd Ya Ks.1 Ks.2.1 Ks.2.2.1 Ks.2.2.2.1 Ks.2.2.2.2.1 Ks.2.2.2.2.2))=some (r1,r2):=by rw [if_pos rfl] at H;exact H
        clear H;have H:=H1;clear H1;replace H:=Option.bind_eq_some_iff.mp H;obtain ⟨⟨t162,qhF,t164,qlg,qnH,t167⟩,qjH,H⟩:=H;replace H:(QC.l1 OO l1 l2 ([]:List Int) (l1.length:Int) 0 Qb Qh Qd Yd Ya t162 qhF t164 qlg qnH t167)=some (r1,r2):=H;have A33:=Q0.mk qjH;clear qjH;have H':=Q0.mk H;clear H;have qBs:=UC.out;have qB4:=ZK.out;have ql5:wc.cell? ⟨YY,0,none⟩=some (.slice Y3 Qb.length QG):=(Q8 QZ.out 0).trans rfl;have ql6:wc.cell? ⟨YY,1,none⟩=some (.slice Y1 Qh.length QI):=(Q8 QZ.out 1).trans rfl;have ql7:wc.cell? ⟨YY,2,none⟩=some (.slice Y5 Qd.length QJ):=(Q8 QZ.out 2).trans rfl;have ql8:wc.cell? ⟨YY,3,none⟩=some (.int .i64 Yd):=(Q8 QZ.out 3).trans rfl;have ql9:wc.cell? ⟨YY,4,none⟩=some (.int .i64 Ya):=(Q8 QZ.out 4).trans rfl;have qmH:=Q9 QZ.out 0;have qmI:=Q9 QZ.out 1;have qmJ:=Q9 QZ.out 2;have qmK:=Q9 QZ.out 3;have qmL:=Q9 QZ.out 4
        go_wp2_with (first|((with_reducible refine Qx (f:=78) rfl ?_);refine YL (some 57) rfl rfl Try.func78 (by kernel_rfl) rfl #[.agg #[.slice Y3 Qb.length QG,.slice Y1 Qh.length QI,.slice Y5 Qd.length QJ,.int .i64 Yd,.int .i64 Ya]] rfl (by (try simp only [List.map_toArray,List.map_cons,List.map_nil]);first|done|rfl|(simp only [List.length_drop,List.length_take];rfl)) ?_;(with_reducible refine (Zc.calls _ _ Qb _ _ Qh _ _ Qd Yd Ya t162 qhF t164 qlg qnH t167 _ ?side1 ?side2 ?side3 ?side4 ?side5 ?side6 A33.out).mono ?_);(case side1=>repeat (first|exact (Kd.C_below Jt.out HB.out)|(with_reducible refine Kd.C_alloc ?_ _)|(with_reducible refine Kd.C_drewN ?_ _)|(with_reducible refine Kd.C_drew ?_)));(case side2=>exact JO.out);(case side3=>repeat (first|exact (Kd.C_below JD.out HB.out)|(with_reducible refine Kd.C_alloc ?_ _)|(with_reducible refine Kd.C_drewN ?_ _)|(with_reducible refine Kd.C_drew ?_)));(case side4=>exact JP.out);(case side5=>repeat (first|exact (Kd.C_below JE.out HB.out)|(with_reducible refine Kd.C_alloc ?_ _)|(with_reducible refine Kd.C_drewN ?_ _)|(with_reducible refine Kd.C_drew ?_)));(case side6=>exact JQ.out);rintro e w36 ⟨rfl,hb⟩;refine ⟨_,rfl,?_⟩;have n0_:=Q0.mk (Qe (g:=ZY) (by (with_reducible repeat (first|refine Q4 ?_ _|refine Q7 ?_|refine Q2 ?_ _));exact YT.out) hb);have n1_:=Q0.mk (Qe (g:=YY) (by (with_reducible repeat (first|refine Q4 ?_ _|refine Q7 ?_|refine Q2 ?_ _));exact QZ.out) hb);have n2_:=Q0.mk (Qm (by repeat (first|(with_reducible first|exact HB.out|apply Q3|apply Q1|apply Q6|refine Q5 ?_ ZV.out|refine Q5 ?_ J1.out)|exact HB.out)) hb);clear YT QZ HB;have YT:=n0_;have QZ:=n1_;have HB:=n2_;clear n0_ n1_ n2_;(try clear hb);(try clear hb2);(try clear hk);(try clear hi))|((with_reducible refine QW (N:=12) rfl ?_);(try (refine Gq (by rfl) ?_;dsimp only));refine Yw ?hg (N:=12) ?hd (cs:=#[.int .i64 0,.int .i64 0,.int .i64 0,.int .i64 0,.int .i64 0,.int .i64 0]) (t:=115) ?hr ?_;(case hd=>rfl);(case hg=>rfl);(case hr=>first|(go_simp;done)|(go_simp;rfl));intro Ys hg w37 hbox hb;have n0_:=Q0.mk (Qe (g:=ZY) (by (with_reducible repeat (first|refine Q4 ?_ _|refine Q7 ?_|refine Q2 ?_ _));exact YT.out) hb);have n1_:=Q0.mk (Qe (g:=YY) (by (with_reducible repeat (first|refine Q4 ?_ _|refine Q7 ?_|refine Q2 ?_ _));exact QZ.out) hb);have n2_:=Q0.mk (Qm (by repeat (first|(with_reducible first|exact HB.out|apply Q3|apply Q1|apply Q6|refine Q5 ?_ ZV.out|refine Q5 ?_ J1.out)|exact HB.out)) hb);have n3_:=Q0.mk (hbox);have n4_:=Q0.mk ((by rw [hg];exact (Qf (by repeat (first|(with_reducible first|exact HB.out|apply Q3|apply Q1|apply Q6|refine Q5 ?_ ZV.out|refine Q5 ?_ J1.out)|exact HB.out))):w.heap.size≤Ys));have n5_:=n4_;have n6_:=Q0.mk ((by rw [hg];exact Nat.ne_of_lt (QL (g:=ZY) (by (with_reducible repeat (first|refine Q4 ?_ _|refine Q7 ?_|refine Q2 ?_ _));exact YT.out)):ZY≠Ys));have n7_:=Q0.mk (n6_.out.symm);have n8_:=Q0.mk ((by rw [hg];exact Nat.ne_of_lt (QL (g:=YY) (by (with_reducible repeat (first|refine Q4 ?_ _|refine Q7 ?_|refine Q2 ?_ _));exact QZ.out)):YY≠Ys));have n9_:=Q0.mk (n8_.out.symm);clear YT QZ HB;have YT:=n0_;have QZ:=n1_;have HB:=n2_;have Yy:=n3_;have qAH:=n4_;have O4:=n5_;have ZQ:=n6_;have KL:=n7_;have ZR:=n8_;have KM:=n9_;clear n0_ n1_ n2_ n3_ n4_ n5_ n6_ n7_ n8_ n9_ hb hbox hg;have qBu:=KL.out;have qB6:=ZQ.out;have qoC:=KM.out;have qoD:=ZR.out;have qby:w37.cell? ⟨Ys,0,none⟩=some (.int .i64 0):=(Q8 Yy.out 0).trans rfl;have qbz:w37.cell? ⟨Ys,1,none⟩=some (.int .i64 0):=(Q8 Yy.out 1).trans rfl;have qbA:w37.cell? ⟨Ys,2,none⟩=some (.int .i64 0):=(Q8 Yy.out 2).trans rfl;have qmg:w37.cell? ⟨Ys,3,none⟩=some (.int .i64 0):=(Q8 Yy.out 3).trans rfl;have qmh:w37.cell? ⟨Ys,4,none⟩=some (.int .i64 0):=(Q8 Yy.out 4).trans rfl;have qmi:w37.cell? ⟨Ys,5,none⟩=some (.int .i64 0):=(Q8 Yy.out 5).trans rfl;have qbJ:=Q9 Yy.out 0;have qbK:=Q9 Yy.out 1;have qbL:=Q9 Yy.out 2;have qmS:=Q9 Yy.out 3;have qmT:=Q9 Yy.out 4;have qmU:=Q9 Yy.out 5))
        go_loopg [13,60] OO (fun kq v13 v60 w' => ∃ (G9:List Int) (J6:Int) (Zv:Int) (Zl:Int) (Zh:Int) (Zd:Int) (Z9:Int) (Z4:Int),v60 = .int .i64 J6∧Q0 (QC.l1 kq l1 l2 G9 (l1.length:Int) J6 Qb Qh Qd Yd Ya Zv Zl Zh Zd Z9 Z4=some (r1,r2))∧Q0 (kq≤OO)∧Q0 (Kd.R (Kd.int .i64) 3 w' w.heap.size (fun k_=>(w.heap.size≤k_)) v13 G9)∧Q0 (w'.heap[ZY]? = some (.cells #[(.slice Y3 Qb.length QG),(.slice Y1 Qh.length QI),(.slice Y5 Qd.length QJ),.int .i64 Yd,.int .i64 Ya] 39 (0,0)))∧Q0 (w'.heap[YY]? = some (.cells #[(.slice Y3 Qb.length QG),(.slice Y1 Qh.length QI),(.slice Y5 Qd.length QJ),.int .i64 Yd,.int .i64 Ya] 111 (0,0)))∧Q0 (w'.heap[Ys]? = some (.cells #[.int .i64 Zv,.int .i64 Zl,.int .i64 Zh,.int .i64 Zd,.int .i64 Z9,.int .i64 Z4] 115 (0,0)))∧Q0 (Below w.heap.size w w'))
        case atStart=>exact ⟨(([]:List Int)),(0),(t162),(qhF),(t164),(qlg),(qnH),(t167),(by first|rfl|(simp;done)|(simp [*];done)),H',⟨Nat.le_refl _⟩,⟨by first|exact Kd.R_nil _ _ _ _ _|exact Kd.N_nil _ _ _ _ _|exact Kd.V_nil _ _ _ _ _|exact Kd.Q_nil _ _ _ _ _|exact Kd.S_nil _ _ _ _ _⟩,⟨by (with_reducible repeat (first|refine Q4 ?_ _|refine Q7 ?_|refine Q2 ?_ _));refine Qk ?_ ZQ.out _;(with_reducible repeat (first|refine Q4 ?_ _|refine Q7 ?_|refine Q2 ?_ _));refine Qk ?_ ZQ.out _;(with_reducible repeat (first|refine Q4 ?_ _|refine Q7 ?_|refine Q2 ?_ _));refine Qk ?_ ZQ.out _;(with_reducible repeat (first|refine Q4 ?_ _|refine Q7 ?_|refine Q2 ?_ _));refine Qk ?_ ZQ.out _;(with_reducible repeat (first|refine Q4 ?_ _|refine Q7 ?_|refine Q2 ?_ _));refine Qk ?_ ZQ.out _;(with_reducible repeat (first|refine Q4 ?_ _|refine Q7 ?_|refine Q2 ?_ _));refine Qk ?_ ZQ.out _;(with_reducible repeat (first|refine Q4 ?_ _|refine Q7 ?_|refine Q2 ?_ _));exact YT.out⟩,⟨by (with_reducible repeat (first|refine Q4 ?_ _|refine Q7 ?_|refine Q2 ?_ _));refine Qk ?_ ZR.out _;(with_reducible repeat (first|refine Q4 ?_ _|refine Q7 ?_|refine Q2 ?_ _));refine Qk ?_ ZR.out _;(with_reducible repeat (first|refine Q4 ?_ _|refine Q7 ?_|refine Q2 ?_ _));refine Qk ?_ ZR.out _;(with_reducible repeat (first|refine Q4 ?_ _|refine Q7 ?_|refine Q2 ?_ _));refine Qk ?_ ZR.out _;(with_reducible repeat (first|refine Q4 ?_ _|refine Q7 ?_|refine Q2 ?_ _));refine Qk ?_ ZR.out _;(with_reducible repeat (first|refine Q4 ?_ _|refine Q7 ?_|refine Q2 ?_ _));refine Qk ?_ ZR.out _;(with_reducible repeat (first|refine Q4 ?_ _|refine Q7 ?_|refine Q2 ?_ _));exact QZ.out⟩,⟨by (with_reducible repeat (first|refine Q4 ?_ _|refine Q7 ?_|refine Q2 ?_ _));refine Qu (cs:=#[.int .i64 t162,.int .i64 qhF,.int .i64 t164,.int .i64 qlg,.int .i64 qnH,.int .i64 0]) ?_ 5 _ rfl;(with_reducible repeat (first|refine Q4 ?_ _|refine Q7 ?_|refine Q2 ?_ _));refine Qu (cs:=#[.int .i64 t162,.int .i64 qhF,.int .i64 t164,.int .i64 qlg,.int .i64 0,.int .i64 0]) ?_ 4 _ rfl;(with_reducible repeat (first|refine Q4 ?_ _|refine Q7 ?_|refine Q2 ?_ _));refine Qu (cs:=#[.int .i64 t162,.int .i64 qhF,.int .i64 t164,.int .i64 0,.int .i64 0,.int .i64 0]) ?_ 3 _ rfl;(with_reducible repeat (first|refine Q4 ?_ _|refine Q7 ?_|refine Q2 ?_ _));refine Qu (cs:=#[.int .i64 t162,.int .i64 qhF,.int .i64 0,.int .i64 0,.int .i64 0,.int .i64 0]) ?_ 2 _ rfl;(with_reducible repeat (first|refine Q4 ?_ _|refine Q7 ?_|refine Q2 ?_ _));refine Qu (cs:=#[.int .i64 t162,.int .i64 0,.int .i64 0,.int .i64 0,.int .i64 0,.int .i64 0]) ?_ 1 _ rfl;(with_reducible repeat (first|refine Q4 ?_ _|refine Q7 ?_|refine Q2 ?_ _));refine Qu (cs:=#[.int .i64 0,.int .i64 0,.int .i64 0,.int .i64 0,.int .i64 0,.int .i64 0]) ?_ 0 _ rfl;(with_reducible repeat (first|refine Q4 ?_ _|refine Q7 ?_|refine Q2 ?_ _));exact Yy.out⟩,⟨by repeat (first|(with_reducible first|exact HB.out|apply Q3|apply Q1|apply Q6|refine Q5 ?_ ZV.out|refine Q5 ?_ J1.out|refine Q5 ?_ O4.out)|exact HB.out)⟩⟩
        case round =>
         clear H';(try clear c1);(try clear p1);(try clear q1);(try clear hx1);(try clear c2);(try clear p2);(try clear c3);(try clear c6);(try clear p6);(try clear c7);(try clear c8);(try clear c11);(try clear c13);(try clear c14);(try clear p15);(try clear q15);(try clear qDx);(try clear p16);(try clear q16);(try clear hx16);(try clear c17);(try clear c20);(try clear c24);(try clear c25);(try clear c26);(try clear c26b0);(try clear c27);(try clear c27b0);(try clear c29);(try clear c30);(try clear c30b0);(try clear c32);(try clear c34);(try clear c38);(try clear c39);(try clear Oi);(try clear Oj);(try clear U1);(try clear U2);(try clear U3);(try clear U4);(try clear U5);(try clear U6);(try clear qbu);(try clear qbv);(try clear Ol);(try clear Om);(try clear On);(try clear qbw);(try clear qbx);(try clear ql5);(try clear ql6);(try clear ql7);(try clear ql8);(try clear ql9);(try clear qby);(try clear qbz);(try clear qbA);(try clear qmg);(try clear qmh);(try clear qmi);(try clear Xk);(try clear Xl);(try clear qaK);(try clear qd4);(try clear qd5);(try clear Kj);(try clear Kk);(try clear Kl);(try clear qd6);(try clear qd7);(try clear Oo);(try clear Oq);(try clear Ud);(try clear Ue);(try clear Uf);(try clear Ug);(try clear Uh);(try clear Ui);(try clear qbF);(try clear qbG);(try clear Ot);(try clear Ou);(try clear Ov);(try clear qbH);(try clear qbI);(try clear qmH);(try clear qmI);(try clear qmJ);(try clear qmK);(try clear qmL);(try clear qbJ);(try clear qbK);(try clear qbL);(try clear qmS);(try clear qmT);(try clear qmU);(try clear Xm);(try clear Xn);(try clear qaL);(try clear qeg);(try clear qeh);(try clear Kn);(try clear Ko);(try clear Kp);(try clear qei);(try clear qej);(try clear Uj);(try clear qbU);(try clear qf0);(try clear qns);(try clear p2);(try clear qf2);(try clear qnz);obtain ⟨G9,J6,Zv,Zl,Zh,Zd,Z9,Z4,rfl,HA,HK4,HO_13,YT,QZ,Yy,HB⟩:=hrel
         cases gk with
         | zero=>exact absurd HA.out (by simp [QC.l1])
         | succ k4 =>
          have H:=HA.out;clear HA;simp only [QC.l1] at H
          by_cases c41:J6<(l1.length:Int)
          ·
           rw [if_pos c41] at H;have c41b0:decide (J6<(l1.length:Int))=true:=decide_eq_true c41;clear c41
           by_cases c42:0≤J6
           ·
            rw [if_pos c42] at H;have c42b0:decide (0≤J6)=true:=decide_eq_true c42;clear c42
            by_cases c43:J6<(l1.length:Int)
            ·
             rw [if_pos c43] at H;have c43b0:decide (J6<(l1.length:Int))=true:=decide_eq_true c43;clear c43
             by_cases c44:J6<(l2.length:Int)
             ·
              rw [if_pos c44] at H;have c44b0:decide (J6<(l2.length:Int))=true:=decide_eq_true c44;clear c44;replace H:=Option.bind_eq_some_iff.mp H;obtain ⟨⟨t171,Kv,t173,Ob,t175,OP,UN⟩,qjJ,H⟩:=H;replace H:(if G9.length<17592186044416 then (QC.l1 k4 l1 l2 (G9++[t171]) (l1.length:Int) (wrap64 (J6+1)) Qb Qh Qd Yd Ya Kv t173 Ob t175 OP UN) else (none))=some (r1,r2):=H;have A45:=Q0.mk qjJ;clear qjJ
              by_cases c46:G9.length<17592186044416
              ·
               rw [if_pos c46] at H;have qqM:=Q0.mk c46;clear c46;obtain ⟨qtf,qfs⟩:∃ y_:List Int,y_=(G9++[t171]):=⟨_,rfl⟩
               replace H:(QC.l1 k4 l1 l2 qtf (l1.length:Int) (wrap64 (J6+1)) Qb Qh Qd Yd Ya Kv t173 Ob t175 OP UN)=some (r1,r2):=by first|(rw [qfs];with_reducible exact H)|(have H2_:=(Option.bind_some _ _).symm.trans H;rw [qfs];with_reducible exact H2_)|(have H2_:=(Option.bind_some _ _).symm.trans H;with_reducible exact H2_)|with_reducible exact H|(rw [qfs];exact H)|exact H
               have qqN:=Q0.mk qfs;clear qfs;have H':=Q0.mk H;clear H
               try go_wp2
               have n0_:=Q0.mk (Kd.R_drew HO_13.out);have n1_:=Q0.mk (Q7 YT.out);have n2_:=Q0.mk (Q7 QZ.out);have n3_:=Q0.mk (Q7 Yy.out);have n4_:=Q0.mk (Q6 HB.out);clear HO_13 YT QZ Yy HB;have HO_13:=n0_;have YT:=n1_;have QZ:=n2_;have Yy:=n3_;have HB:=n4_;clear n0_ n1_ n2_ n3_ n4_;have qpU:0≤(J6:Int):=of_decide_eq_true (by first|(with_reducible assumption)|assumption);have qp0:J6<(l1.length:Int):=of_decide_eq_true (by first|(with_reducible assumption)|assumption);obtain ⟨qj5,e169,qar⟩:=Kd.at_int HR1.out J6 qpU qp0;have Zr:=qar;cases e169;replace qar:=(HB.out.cell (World.block_lt_of_cell? w _ qar)).trans qar;replace qpU:=eq_true qpU;replace qp0:=eq_true qp0;have qpV:0≤(J6:Int):=of_decide_eq_true (by first|(with_reducible assumption)|assumption);have qp1:J6<(l2.length:Int):=of_decide_eq_true (by first|(with_reducible assumption)|assumption);obtain ⟨qj6,e170,qas⟩:=Kd.at_int HR2.out J6 qpV qp1;have Zs:=qas;cases e170;replace qas:=(HB.out.cell (World.block_lt_of_cell? w _ qas)).trans qas;replace qpV:=eq_true qpV;replace qp1:=eq_true qp1;refine qaS (n:=18) (S:=fun w'=>w'.cell? ⟨YY,0,none⟩=some (.slice Y3 Qb.length QG)∧w'.cell? ⟨YY,1,none⟩=some (.slice Y1 Qh.length QI)∧w'.cell? ⟨YY,2,none⟩=some (.slice Y5 Qd.length QJ)∧w'.cell? ⟨YY,3,none⟩=some (.int .i64 Yd)∧w'.cell? ⟨YY,4,none⟩=some (.int .i64 Ya)∧w'.cell? ⟨Ys,0,none⟩=some (.int .i64 Zv)∧w'.cell? ⟨Ys,1,none⟩=some (.int .i64 Zl)∧w'.cell? ⟨Ys,2,none⟩=some (.int .i64 Zh)∧w'.cell? ⟨Ys,3,none⟩=some (.int .i64 Zd)∧w'.cell? ⟨Ys,4,none⟩=some (.int .i64 Z9)∧w'.cell? ⟨Ys,5,none⟩=some (.int .i64 Z4)∧w'.cell? (qj5.add (J6).toNat)=some (.int .i64 (rd l1 J6))∧w'.cell? (qj6.add (J6).toNat)=some (.int .i64 (rd l2 J6))) (ds:=[]) #[false,false,false,false,false,false,false,false,false,false,false,false,false,false,false,false,false,false] (by kernel_rfl) rfl rfl ⟨(Q8 QZ.out 0).trans rfl,(Q8 QZ.out 1).trans rfl,(Q8 QZ.out 2).trans rfl,(Q8 QZ.out 3).trans rfl,(Q8 QZ.out 4).trans rfl,(Q8 Yy.out 0).trans rfl,(Q8 Yy.out 1).trans rfl,(Q8 Yy.out 2).trans rfl,(Q8 Yy.out 3).trans rfl,(Q8 Yy.out 4).trans rfl,(Q8 Yy.out 5).trans rfl,((HB.out.cell (World.block_lt_of_cell? w _ Zr)).trans Zr),((HB.out.cell (World.block_lt_of_cell? w _ Zs)).trans Zs)⟩ (fun hHeld => ?_);refine UO QC.tab15 QC.bits15 (fun HT_ HW_ => ?_)
               generalize wr.drew=w47 at HO_13 YT QZ Yy HB qar qas hHeld ⊢
               refine ZE (i:=0) (N:=some 64) (v:=?_) (a':=?_) #[true,false,false,false,false,false,false,false,false,false,false,false,false,false,false,false,false,false] rfl rfl (Zb HT_.out (by kernel_rfl)) (fun _ _ _ h=>h) (Or.inl ⟨by rfl,?_⟩) ?_ ?_
               rotate_left
               ·
                intro w'
                go_simp
                with_reducible rfl
               rotate_left
               ·
                simp only [Act.put,List.setIfInBounds_toArray,List.set_cons_zero,List.set_cons_succ,Yj,Yu]
                rfl
               refine ZE (i:=3) (N:=some 67) (v:=?_) (a':=?_) #[true,false,false,true,false,false,false,false,false,false,false,false,false,false,false,false,false,false] rfl rfl (Zb HT_.out (by kernel_rfl)) (fun _ _ _ h=>h) (Or.inl ⟨by rfl,?_⟩) ?_ ?_
               rotate_left
               ·
                intro w'
                go_simp
                with_reducible rfl
               rotate_left
               ·
                simp only [Act.put,List.setIfInBounds_toArray,List.set_cons_zero,List.set_cons_succ,Yj,Yu]
                rfl
               refine ZE (i:=4) (N:=some 68) (v:=?_) (a':=?_) #[true,false,false,true,true,false,false,false,false,false,false,false,false,false,false,false,false,false] rfl rfl (Zb HT_.out (by kernel_rfl)) (fun _ _ _ h=>h) (Or.inl ⟨by rfl,?_⟩) ?_ ?_
               rotate_left
               ·
                intro w'
                go_simp
                with_reducible rfl
               rotate_left
               ·
                simp only [Act.put,List.setIfInBounds_toArray,List.set_cons_zero,List.set_cons_succ,Yj,Yu]
                rfl
               refine ZE (i:=5) (N:=some 69) (v:=?_) (a':=?_) #[true,false,false,true,true,true,false,false,false,false,false,false,false,false,false,false,false,false] rfl rfl (Zb HT_.out (by kernel_rfl)) (fun _ _ _ h=>h) (Or.inl ⟨by rfl,?_⟩) ?_ ?_
               rotate_left
               ·
                intro w'
                go_simp
                with_reducible rfl
               rotate_left
               ·
                simp only [Act.put,List.setIfInBounds_toArray,List.set_cons_zero,List.set_cons_succ,Yj,Yu]
                rfl
               refine ZE (i:=7) (N:=some 71) (v:=?_) (a':=?_) #[true,false,false,true,true,true,false,true,false,false,false,false,false,false,false,false,false,false] rfl rfl (Zb HT_.out (by kernel_rfl)) (fun _ _ _ h=>h) (Or.inl ⟨by rfl,?_⟩) ?_ ?_
               rotate_left
               ·
                intro w'
                go_simp
                with_reducible rfl
               rotate_left
               ·
                simp only [Act.put,List.setIfInBounds_toArray,List.set_cons_zero,List.set_cons_succ,Yj,Yu]
                rfl
               refine ZE (i:=8) (N:=some 72) (v:=?_) (a':=?_) #[true,false,false,true,true,true,false,true,true,false,false,false,false,false,false,false,false,false] rfl rfl (Zb HT_.out (by kernel_rfl)) (fun _ _ _ h=>h) (Or.inl ⟨by rfl,?_⟩) ?_ ?_
               rotate_left
               ·
                intro w'
                go_simp
                with_reducible rfl
               rotate_left
               ·
                simp only [Act.put,List.setIfInBounds_toArray,List.set_cons_zero,List.set_cons_succ,Yj,Yu]
                rfl
               refine ZE (i:=9) (N:=some 73) (v:=?_) (a':=?_) #[true,false,false,true,true,true,false,true,true,true,false,false,false,false,false,false,false,false] rfl rfl (Zb HT_.out (by kernel_rfl)) (fun _ _ _ h=>h) (Or.inl ⟨by rfl,?_⟩) ?_ ?_
               rotate_left
               ·
                intro w'
                go_simp
                with_reducible rfl
               rotate_left
               ·
                simp only [Act.put,List.setIfInBounds_toArray,List.set_cons_zero,List.set_cons_succ,Yj,Yu]
                rfl
               refine Oh (i:=1) (N:=some 65) (v:=?_) (a':=?_) #[true,true,false,true,true,true,false,true,true,true,false,false,false,false,false,false,false,false] rfl rfl (JI HT_.out HW_.out (by kernel_rfl)) (fun _ _ _ h=>h) (Or.inl ⟨by rfl,?_⟩) hHeld ?_ ?_
               rotate_left
               ·
                rintro w' ⟨s0,s1,s2,s3,s4,s5,s6,s7,s8,s9,s10,s11,s12⟩
                go_simp
                with_reducible rfl
               rotate_left
               ·
                simp only [Act.put,List.setIfInBounds_toArray,List.set_cons_zero,List.set_cons_succ,Yj,Yu]
                rfl
               refine Oh (i:=2) (N:=some 66) (v:=?_) (a':=?_) #[true,true,true,true,true,true,false,true,true,true,false,false,false,false,false,false,false,false] rfl rfl (JI HT_.out HW_.out (by kernel_rfl)) (fun _ _ _ h=>h) (Or.inl ⟨by rfl,?_⟩) hHeld ?_ ?_
               rotate_left
               ·
                rintro w' ⟨s0,s1,s2,s3,s4,s5,s6,s7,s8,s9,s10,s11,s12⟩
                go_simp
                with_reducible rfl
               rotate_left
               ·
                simp only [Act.put,List.setIfInBounds_toArray,List.set_cons_zero,List.set_cons_succ,Yj,Yu]
                rfl
               refine Oh (i:=6) (N:=some 70) (v:=?_) (a':=?_) #[true,true,true,true,true,true,true,true,true,true,false,false,false,false,false,false,false,false] rfl rfl (JI HT_.out HW_.out (by kernel_rfl)) (fun _ _ _ h=>h) (Or.inl ⟨by rfl,?_⟩) hHeld ?_ ?_
               rotate_left
               ·
                rintro w' ⟨s0,s1,s2,s3,s4,s5,s6,s7,s8,s9,s10,s11,s12⟩
                go_simp
                with_reducible rfl
               rotate_left
               ·
                simp only [Act.put,List.setIfInBounds_toArray,List.set_cons_zero,List.set_cons_succ,Yj,Yu]
                rfl
               refine Oh (i:=10) (N:=some 74) (v:=?_) (a':=?_) #[true,true,true,true,true,true,true,true,true,true,true,false,false,false,false,false,false,false] rfl rfl (JI HT_.out HW_.out (by kernel_rfl)) (fun _ _ _ h=>h) (Or.inl ⟨by rfl,?_⟩) hHeld ?_ ?_
               rotate_left
               ·
                rintro w' ⟨s0,s1,s2,s3,s4,s5,s6,s7,s8,s9,s10,s11,s12⟩
                go_simp
                with_reducible rfl
               rotate_left
               ·
                simp only [Act.put,List.setIfInBounds_toArray,List.set_cons_zero,List.set_cons_succ,Yj,Yu]
                rfl
               refine qoJ (σ:=Nat) 2 #[true,true,true,true,true,true,true,true,true,true,true,true,true,true,true,true,false,false] (fun s_=>[(75,.tuple #[.int .i64 t171,.agg #[.int .i64 Kv,.int .i64 t173,.int .i64 Ob,.int .i64 t175,.int .i64 OP,.int .i64 UN]]),(16,.pointer (some ⟨s_,0,none⟩)),(63,.tuple #[.int .i64 t171,.agg #[.int .i64 Kv,.int .i64 t173,.int .i64 Ob,.int .i64 t175,.int .i64 OP,.int .i64 UN]]),(76,.int .i64 t171),(77,.agg #[.int .i64 Kv,.int .i64 t173,.int .i64 Ob,.int .i64 t175,.int .i64 OP,.int .i64 UN])]) (fun s_ w'=>(w'.cell? ⟨YY,0,none⟩=some (.slice Y3 Qb.length QG)∧w'.cell? ⟨YY,1,none⟩=some (.slice Y1 Qh.length QI)∧w'.cell? ⟨YY,2,none⟩=some (.slice Y5 Qd.length QJ)∧w'.cell? ⟨YY,3,none⟩=some (.int .i64 Yd)∧w'.cell? ⟨YY,4,none⟩=some (.int .i64 Ya)∧w'.cell? ⟨Ys,0,none⟩=some (.int .i64 Zv)∧w'.cell? ⟨Ys,1,none⟩=some (.int .i64 Zl)∧w'.cell? ⟨Ys,2,none⟩=some (.int .i64 Zh)∧w'.cell? ⟨Ys,3,none⟩=some (.int .i64 Zd)∧w'.cell? ⟨Ys,4,none⟩=some (.int .i64 Z9)∧w'.cell? ⟨Ys,5,none⟩=some (.int .i64 Z4)∧w'.cell? (qj5.add (J6).toNat)=some (.int .i64 (rd l1 J6))∧w'.cell? (qj6.add (J6).toNat)=some (.int .i64 (rd l2 J6)))∧(Kd.R (Kd.int .i64) 3 w' w.heap.size (fun k_=>(w.heap.size≤k_)) u13 G9)∧(w'.heap[ZY]? = some (.cells #[.slice Y3 Qb.length QG,.slice Y1 Qh.length QI,.slice Y5 Qd.length QJ,.int .i64 Yd,.int .i64 Ya] 39 (0,0)))∧(w'.heap[YY]? = some (.cells #[.slice Y3 Qb.length QG,.slice Y1 Qh.length QI,.slice Y5 Qd.length QJ,.int .i64 Yd,.int .i64 Ya] 111 (0,0)))∧(w'.heap[Ys]? = some (.cells #[.int .i64 Zv,.int .i64 Zl,.int .i64 Zh,.int .i64 Zd,.int .i64 Z9,.int .i64 Z4] 115 (0,0)))∧(w'.heap[s_]? = some (.cells #[.int .i64 0,.int .i64 0,.int .i64 0,.int .i64 0,.int .i64 0,.int .i64 0] 115 (0,0)))∧(w.heap.size≤s_)∧(w.heap.size≤s_)∧(ZY≠s_)∧(s_≠ZY)∧(YY≠s_)∧(s_≠YY)∧(Ys≠s_)∧(s_≠Ys)∧(Below w.heap.size w w')) ?_ ?_
               rotate_left
               ·
                intro hCont;refine two_ (i:=11) (j:=15) (Ni:=some 75) (Nj:=some 16) #[true,true,true,true,true,true,true,true,true,true,true,true,false,false,false,false,false,false] #[true,true,true,true,true,true,true,true,true,true,true,false,false,false,false,true,false,false] rfl rfl rfl rfl (qli HT_.out (by kernel_rfl)) (by decide) (by decide) (fun K hK => ?_) (fun K hK => ?_)
                ·
                 skip
                 refine qdV Try.func77 (by kernel_rfl) rfl #[.agg #[.slice Y3 Qb.length QG,.slice Y1 Qh.length QI,.slice Y5 Qd.length QJ,.int .i64 Yd,.int .i64 Ya],.agg #[.int .i64 Zv,.int .i64 Zl,.int .i64 Zh,.int .i64 Zd,.int .i64 Z9,.int .i64 Z4],.int .i64 (rd l1 J6),.int .i64 (rd l2 J6)] 64 (by rfl) rfl rfl rfl (by (try simp only [List.map_toArray,List.map_cons,List.map_nil]);first|done|rfl|(simp only [List.length_drop,List.length_take];rfl)) ?_
                 with_reducible refine (Zk.calls _ _ Qb _ _ Qh _ _ Qd Yd Ya Zv Zl Zh Zd Z9 Z4 (rd l1 J6) (rd l2 J6) t171 Kv t173 Ob t175 OP UN _ ?side1 ?side2 ?side3 ?side4 ?side5 ?side6 A45.out).mono ?_
                 (case side1=>repeat (first|exact (Kd.C_below Jt.out HB.out)|(with_reducible refine Kd.C_alloc ?_ _)|(with_reducible refine Kd.C_drewN ?_ _)|(with_reducible refine Kd.C_drew ?_)))
                 (case side2=>exact JO.out)
                 (case side3=>repeat (first|exact (Kd.C_below JD.out HB.out)|(with_reducible refine Kd.C_alloc ?_ _)|(with_reducible refine Kd.C_drewN ?_ _)|(with_reducible refine Kd.C_drew ?_)))
                 (case side4=>exact JP.out)
                 (case side5=>repeat (first|exact (Kd.C_below JE.out HB.out)|(with_reducible refine Kd.C_alloc ?_ _)|(with_reducible refine Kd.C_drewN ?_ _)|(with_reducible refine Kd.C_drew ?_)))
                 (case side6=>exact JQ.out)
                 rintro e w48 ⟨rfl,hb⟩;refine ⟨_,rfl,?_⟩;have n0_:=Q0.mk (Kd.R_below (by (with_reducible repeat (first|apply Kd.R_alloc|apply Kd.R_drewN|apply Kd.R_drew));exact HO_13.out) hb);have n1_:=Q0.mk (Qe (g:=ZY) (by (with_reducible repeat (first|refine Q4 ?_ _|refine Q7 ?_|refine Q2 ?_ _));exact YT.out) hb);have n2_:=Q0.mk (Qe (g:=YY) (by (with_reducible repeat (first|refine Q4 ?_ _|refine Q7 ?_|refine Q2 ?_ _));exact QZ.out) hb);have n3_:=Q0.mk (Qe (g:=Ys) (by (with_reducible repeat (first|refine Q4 ?_ _|refine Q7 ?_|refine Q2 ?_ _));exact Yy.out) hb);have n4_:=Q0.mk (Qm (by repeat (first|(with_reducible first|exact HB.out|apply Q3|apply Q1|apply Q6|refine Q5 ?_ ZV.out|refine Q5 ?_ J1.out|refine Q5 ?_ O4.out)|exact HB.out)) hb);clear HO_13 YT QZ Yy HB;have HO_13:=n0_;have YT:=n1_;have QZ:=n2_;have Yy:=n3_;have HB:=n4_;clear n0_ n1_ n2_ n3_ n4_
                 (try clear hb)
                 (try clear hb2)
                 (try clear hk)
                 (try clear hi)
                 refine hK.out _ _ ⟨(Q8 QZ.out 0).trans rfl,(Q8 QZ.out 1).trans rfl,(Q8 QZ.out 2).trans rfl,(Q8 QZ.out 3).trans rfl,(Q8 QZ.out 4).trans rfl,(Q8 Yy.out 0).trans rfl,(Q8 Yy.out 1).trans rfl,(Q8 Yy.out 2).trans rfl,(Q8 Yy.out 3).trans rfl,(Q8 Yy.out 4).trans rfl,(Q8 Yy.out 5).trans rfl,((HB.out.cell (World.block_lt_of_cell? w _ Zr)).trans Zr),((HB.out.cell (World.block_lt_of_cell? w _ Zs)).trans Zs)⟩ (fun hHeld => ?_);clear hK K;refine Gl (a':=?_) ?_ ?_
                 rotate_left
                 ·
                  show Act.put _ (some 75) _=_
                  simp only [Act.put,List.setIfInBounds_toArray,List.set_cons_zero,List.set_cons_succ,Yj,Yu]
                  rfl
                 refine ZE (i:=12) (N:=some 63) (v:=?_) (a':=?_) #[true,true,true,true,true,true,true,true,true,true,true,true,true,false,false,false,false,false] rfl rfl (Zb HT_.out (by kernel_rfl)) (fun _ _ _ h=>h) (Or.inl ⟨by rfl,?_⟩) ?_ ?_
                 rotate_left
                 ·
                  intro w'
                  go_simp
                  with_reducible rfl
                 rotate_left
                 ·
                  simp only [Act.put,List.setIfInBounds_toArray,List.set_cons_zero,List.set_cons_succ,Yj,Yu]
                  rfl
                 refine ZE (i:=13) (N:=some 76) (v:=?_) (a':=?_) #[true,true,true,true,true,true,true,true,true,true,true,true,true,true,false,false,false,false] rfl rfl (Zb HT_.out (by kernel_rfl)) (fun _ _ _ h=>h) (Or.inl ⟨by rfl,?_⟩) ?_ ?_
                 rotate_left
                 ·
                  intro w'
                  go_simp
                  with_reducible rfl
                 rotate_left
                 ·
                  simp only [Act.put,List.setIfInBounds_toArray,List.set_cons_zero,List.set_cons_succ,Yj,Yu]
                  rfl
                 refine ZE (i:=14) (N:=some 77) (v:=?_) (a':=?_) #[true,true,true,true,true,true,true,true,true,true,true,true,true,true,true,false,false,false] rfl rfl (Zb HT_.out (by kernel_rfl)) (fun _ _ _ h=>h) (Or.inl ⟨by rfl,?_⟩) ?_ ?_
                 rotate_left
                 ·
                  intro w'
                  go_simp
                  with_reducible rfl
                 rotate_left
                 ·
                  simp only [Act.put,List.setIfInBounds_toArray,List.set_cons_zero,List.set_cons_succ,Yj,Yu]
                  rfl
                 refine one_ (i:=15) (N:=some 16) #[true,true,true,true,true,true,true,true,true,true,true,true,true,true,true,true,false,false] rfl rfl (KE HT_.out (by kernel_rfl)) (by decide) (fun K hK => ?_);refine XH ?hg (N:=16) ?hd (cs:=#[.int .i64 0,.int .i64 0,.int .i64 0,.int .i64 0,.int .i64 0,.int .i64 0]) (t:=115) ?hr ?_;(case hd=>rfl);(case hg=>rfl);(case hr=>first|(go_simp;done)|(go_simp;rfl));intro QH hg w49 hbox hb;have n0_:=Q0.mk (Kd.R_below (by (with_reducible repeat (first|apply Kd.R_alloc|apply Kd.R_drewN|apply Kd.R_drew));exact HO_13.out) hb);have n1_:=Q0.mk (Qe (g:=ZY) (by (with_reducible repeat (first|refine Q4 ?_ _|refine Q7 ?_|refine Q2 ?_ _));exact YT.out) hb);have n2_:=Q0.mk (Qe (g:=YY) (by (with_reducible repeat (first|refine Q4 ?_ _|refine Q7 ?_|refine Q2 ?_ _));exact QZ.out) hb);have n3_:=Q0.mk (Qe (g:=Ys) (by (with_reducible repeat (first|refine Q4 ?_ _|refine Q7 ?_|refine Q2 ?_ _));exact Yy.out) hb);have n4_:=Q0.mk (Qm (by repeat (first|(with_reducible first|exact HB.out|apply Q3|apply Q1|apply Q6|refine Q5 ?_ ZV.out|refine Q5 ?_ J1.out|refine Q5 ?_ O4.out)|exact HB.out)) hb);have n5_:=Q0.mk (hbox);have n6_:=Q0.mk ((by rw [hg];exact (Qf (by repeat (first|(with_reducible first|exact HB.out|apply Q3|apply Q1|apply Q6|refine Q5 ?_ ZV.out|refine Q5 ?_ J1.out|refine Q5 ?_ O4.out)|exact HB.out))):w.heap.size≤QH));have n7_:=n6_;have n8_:=Q0.mk ((by rw [hg];exact Nat.ne_of_lt (QL (g:=ZY) (by (with_reducible repeat (first|refine Q4 ?_ _|refine Q7 ?_|refine Q2 ?_ _));exact YT.out)):ZY≠QH));have n9_:=Q0.mk (n8_.out.symm);have n10_:=Q0.mk ((by rw [hg];exact Nat.ne_of_lt (QL (g:=YY) (by (with_reducible repeat (first|refine Q4 ?_ _|refine Q7 ?_|refine Q2 ?_ _));exact QZ.out)):YY≠QH));have n11_:=Q0.mk (n10_.out.symm);have n12_:=Q0.mk ((by rw [hg];exact Nat.ne_of_lt (QL (g:=Ys) (by (with_reducible repeat (first|refine Q4 ?_ _|refine Q7 ?_|refine Q2 ?_ _));exact Yy.out)):Ys≠QH));have n13_:=Q0.mk (n12_.out.symm);clear HO_13 YT QZ Yy HB;have HO_13:=n0_;have YT:=n1_;have QZ:=n2_;have Yy:=n3_;have HB:=n4_;have ZH:=n5_;have ZB:=n6_;have Wh:=n7_;have Ja:=n8_;have Gb:=n9_;have Ym:=n10_;have Gc:=n11_;have Y4:=n12_;have Yf:=n13_;clear n0_ n1_ n2_ n3_ n4_ n5_ n6_ n7_ n8_ n9_ n10_ n11_ n12_ n13_ hb hbox hg;refine hK.out _ _ ⟨(Q8 QZ.out 0).trans rfl,(Q8 QZ.out 1).trans rfl,(Q8 QZ.out 2).trans rfl,(Q8 QZ.out 3).trans rfl,(Q8 QZ.out 4).trans rfl,(Q8 Yy.out 0).trans rfl,(Q8 Yy.out 1).trans rfl,(Q8 Yy.out 2).trans rfl,(Q8 Yy.out 3).trans rfl,(Q8 Yy.out 4).trans rfl,(Q8 Yy.out 5).trans rfl,((HB.out.cell (World.block_lt_of_cell? w _ Zr)).trans Zr),((HB.out.cell (World.block_lt_of_cell? w _ Zs)).trans Zs)⟩ (fun hHeld => ?_);clear hK K;refine Gl (a':=?_) ?_ ?_
                 rotate_left
                 ·
                  show Act.put _ (some 16) _=_
                  simp only [Act.put,List.setIfInBounds_toArray,List.set_cons_zero,List.set_cons_succ,Yj,Yu]
                  rfl
                 exact Gl (by simp only [W8,Act.put,List.setIfInBounds_toArray,List.set_cons_zero,List.set_cons_succ]) (hCont (QH) _ ⟨hHeld,(by (with_reducible repeat (first|apply Kd.R_alloc|apply Kd.R_drewN|apply Kd.R_drew));exact HO_13.out),(by (with_reducible repeat (first|refine Q4 ?_ _|refine Q7 ?_|refine Q2 ?_ _));exact YT.out),(by (with_reducible repeat (first|refine Q4 ?_ _|refine Q7 ?_|refine Q2 ?_ _));exact QZ.out),(by (with_reducible repeat (first|refine Q4 ?_ _|refine Q7 ?_|refine Q2 ?_ _));exact Yy.out),(by (with_reducible repeat (first|refine Q4 ?_ _|refine Q7 ?_|refine Q2 ?_ _));exact ZH.out),ZB.out,Wh.out,Ja.out,Gb.out,Ym.out,Gc.out,Y4.out,Yf.out,(by repeat (first|(with_reducible first|exact HB.out|apply Q3|apply Q1|apply Q6|refine Q5 ?_ ZV.out|refine Q5 ?_ J1.out|refine Q5 ?_ O4.out|refine Q5 ?_ Wh.out)|exact HB.out))⟩)
                skip
                refine XH ?hg (N:=16) ?hd (cs:=#[.int .i64 0,.int .i64 0,.int .i64 0,.int .i64 0,.int .i64 0,.int .i64 0]) (t:=115) ?hr ?_;(case hd=>rfl);(case hg=>rfl);(case hr=>first|(go_simp;done)|(go_simp;rfl));intro QH hg w48 hbox hb;have n0_:=Q0.mk (Kd.R_below (by (with_reducible repeat (first|apply Kd.R_alloc|apply Kd.R_drewN|apply Kd.R_drew));exact HO_13.out) hb);have n1_:=Q0.mk (Qe (g:=ZY) (by (with_reducible repeat (first|refine Q4 ?_ _|refine Q7 ?_|refine Q2 ?_ _));exact YT.out) hb);have n2_:=Q0.mk (Qe (g:=YY) (by (with_reducible repeat (first|refine Q4 ?_ _|refine Q7 ?_|refine Q2 ?_ _));exact QZ.out) hb);have n3_:=Q0.mk (Qe (g:=Ys) (by (with_reducible repeat (first|refine Q4 ?_ _|refine Q7 ?_|refine Q2 ?_ _));exact Yy.out) hb);have n4_:=Q0.mk (Qm (by repeat (first|(with_reducible first|exact HB.out|apply Q3|apply Q1|apply Q6|refine Q5 ?_ ZV.out|refine Q5 ?_ J1.out|refine Q5 ?_ O4.out)|exact HB.out)) hb);have n5_:=Q0.mk (hbox);have n6_:=Q0.mk ((by rw [hg];exact (Qf (by repeat (first|(with_reducible first|exact HB.out|apply Q3|apply Q1|apply Q6|refine Q5 ?_ ZV.out|refine Q5 ?_ J1.out|refine Q5 ?_ O4.out)|exact HB.out))):w.heap.size≤QH));have n7_:=n6_;have n8_:=Q0.mk ((by rw [hg];exact Nat.ne_of_lt (QL (g:=ZY) (by (with_reducible repeat (first|refine Q4 ?_ _|refine Q7 ?_|refine Q2 ?_ _));exact YT.out)):ZY≠QH));have n9_:=Q0.mk (n8_.out.symm);have n10_:=Q0.mk ((by rw [hg];exact Nat.ne_of_lt (QL (g:=YY) (by (with_reducible repeat (first|refine Q4 ?_ _|refine Q7 ?_|refine Q2 ?_ _));exact QZ.out)):YY≠QH));have n11_:=Q0.mk (n10_.out.symm);have n12_:=Q0.mk ((by rw [hg];exact Nat.ne_of_lt (QL (g:=Ys) (by (with_reducible repeat (first|refine Q4 ?_ _|refine Q7 ?_|refine Q2 ?_ _));exact Yy.out)):Ys≠QH));have n13_:=Q0.mk (n12_.out.symm);clear HO_13 YT QZ Yy HB;have HO_13:=n0_;have YT:=n1_;have QZ:=n2_;have Yy:=n3_;have HB:=n4_;have ZH:=n5_;have ZB:=n6_;have Wh:=n7_;have Ja:=n8_;have Gb:=n9_;have Ym:=n10_;have Gc:=n11_;have Y4:=n12_;have Yf:=n13_;clear n0_ n1_ n2_ n3_ n4_ n5_ n6_ n7_ n8_ n9_ n10_ n11_ n12_ n13_ hb hbox hg;refine hK.out _ _ ⟨(Q8 QZ.out 0).trans rfl,(Q8 QZ.out 1).trans rfl,(Q8 QZ.out 2).trans rfl,(Q8 QZ.out 3).trans rfl,(Q8 QZ.out 4).trans rfl,(Q8 Yy.out 0).trans rfl,(Q8 Yy.out 1).trans rfl,(Q8 Yy.out 2).trans rfl,(Q8 Yy.out 3).trans rfl,(Q8 Yy.out 4).trans rfl,(Q8 Yy.out 5).trans rfl,((HB.out.cell (World.block_lt_of_cell? w _ Zr)).trans Zr),((HB.out.cell (World.block_lt_of_cell? w _ Zs)).trans Zs)⟩ (fun hHeld => ?_);clear hK K;refine Gl (a':=?_) ?_ ?_
                rotate_left
                ·
                 show Act.put _ (some 16) _=_
                 simp only [Act.put,List.setIfInBounds_toArray,List.set_cons_zero,List.set_cons_succ,Yj,Yu]
                 rfl
                refine one_ (i:=11) (N:=some 75) #[true,true,true,true,true,true,true,true,true,true,true,true,false,false,false,true,false,false] rfl rfl (KE HT_.out (by kernel_rfl)) (by decide) (fun K hK => ?_);refine qdV Try.func77 (by kernel_rfl) rfl #[.agg #[.slice Y3 Qb.length QG,.slice Y1 Qh.length QI,.slice Y5 Qd.length QJ,.int .i64 Yd,.int .i64 Ya],.agg #[.int .i64 Zv,.int .i64 Zl,.int .i64 Zh,.int .i64 Zd,.int .i64 Z9,.int .i64 Z4],.int .i64 (rd l1 J6),.int .i64 (rd l2 J6)] 64 (by rfl) rfl rfl rfl (by (try simp only [List.map_toArray,List.map_cons,List.map_nil]);first|done|rfl|(simp only [List.length_drop,List.length_take];rfl)) ?_
                with_reducible refine (Zk.calls _ _ Qb _ _ Qh _ _ Qd Yd Ya Zv Zl Zh Zd Z9 Z4 (rd l1 J6) (rd l2 J6) t171 Kv t173 Ob t175 OP UN _ ?side1 ?side2 ?side3 ?side4 ?side5 ?side6 A45.out).mono ?_
                (case side1=>repeat (first|exact (Kd.C_below Jt.out HB.out)|(with_reducible refine Kd.C_alloc ?_ _)|(with_reducible refine Kd.C_drewN ?_ _)|(with_reducible refine Kd.C_drew ?_)))
                (case side2=>exact JO.out)
                (case side3=>repeat (first|exact (Kd.C_below JD.out HB.out)|(with_reducible refine Kd.C_alloc ?_ _)|(with_reducible refine Kd.C_drewN ?_ _)|(with_reducible refine Kd.C_drew ?_)))
                (case side4=>exact JP.out)
                (case side5=>repeat (first|exact (Kd.C_below JE.out HB.out)|(with_reducible refine Kd.C_alloc ?_ _)|(with_reducible refine Kd.C_drewN ?_ _)|(with_reducible refine Kd.C_drew ?_)))
                (case side6=>exact JQ.out)
                rintro e w49 ⟨rfl,hb⟩;refine ⟨_,rfl,?_⟩;have n0_:=Q0.mk (Kd.R_below (by (with_reducible repeat (first|apply Kd.R_alloc|apply Kd.R_drewN|apply Kd.R_drew));exact HO_13.out) hb);have n1_:=Q0.mk (Qe (g:=ZY) (by (with_reducible repeat (first|refine Q4 ?_ _|refine Q7 ?_|refine Q2 ?_ _));exact YT.out) hb);have n2_:=Q0.mk (Qe (g:=YY) (by (with_reducible repeat (first|refine Q4 ?_ _|refine Q7 ?_|refine Q2 ?_ _));exact QZ.out) hb);have n3_:=Q0.mk (Qe (g:=Ys) (by (with_reducible repeat (first|refine Q4 ?_ _|refine Q7 ?_|refine Q2 ?_ _));exact Yy.out) hb);have n4_:=Q0.mk (Qe (g:=QH) (by (with_reducible repeat (first|refine Q4 ?_ _|refine Q7 ?_|refine Q2 ?_ _));exact ZH.out) hb);have n5_:=Q0.mk (Qm (by repeat (first|(with_reducible first|exact HB.out|apply Q3|apply Q1|apply Q6|refine Q5 ?_ ZV.out|refine Q5 ?_ J1.out|refine Q5 ?_ O4.out|refine Q5 ?_ Wh.out)|exact HB.out)) hb);clear HO_13 YT QZ Yy ZH HB;have HO_13:=n0_;have YT:=n1_;have QZ:=n2_;have Yy:=n3_;have ZH:=n4_;have HB:=n5_;clear n0_ n1_ n2_ n3_ n4_ n5_
                (try clear hb)
                (try clear hb2)
                (try clear hk)
                (try clear hi)
                refine hK.out _ _ ⟨(Q8 QZ.out 0).trans rfl,(Q8 QZ.out 1).trans rfl,(Q8 QZ.out 2).trans rfl,(Q8 QZ.out 3).trans rfl,(Q8 QZ.out 4).trans rfl,(Q8 Yy.out 0).trans rfl,(Q8 Yy.out 1).trans rfl,(Q8 Yy.out 2).trans rfl,(Q8 Yy.out 3).trans rfl,(Q8 Yy.out 4).trans rfl,(Q8 Yy.out 5).trans rfl,((HB.out.cell (World.block_lt_of_cell? w _ Zr)).trans Zr),((HB.out.cell (World.block_lt_of_cell? w _ Zs)).trans Zs)⟩ (fun hHeld => ?_);clear hK K;refine Gl (a':=?_) ?_ ?_
                rotate_left
                ·
                 show Act.put _ (some 75) _=_
                 simp only [Act.put,List.setIfInBounds_toArray,List.set_cons_zero,List.set_cons_succ,Yj,Yu]
                 rfl
                refine ZE (i:=12) (N:=some 63) (v:=?_) (a':=?_) #[true,true,true,true,true,true,true,true,true,true,true,true,true,false,false,true,false,false] rfl rfl (Zb HT_.out (by kernel_rfl)) (fun _ _ _ h=>h) (Or.inl ⟨by rfl,?_⟩) ?_ ?_
                rotate_left
                ·
                 intro w'
                 go_simp
                 with_reducible rfl
                rotate_left
                ·
                 simp only [Act.put,List.setIfInBounds_toArray,List.set_cons_zero,List.set_cons_succ,Yj,Yu]
                 rfl
                refine ZE (i:=13) (N:=some 76) (v:=?_) (a':=?_) #[true,true,true,true,true,true,true,true,true,true,true,true,true,true,false,true,false,false] rfl rfl (Zb HT_.out (by kernel_rfl)) (fun _ _ _ h=>h) (Or.inl ⟨by rfl,?_⟩) ?_ ?_
                rotate_left
                ·
                 intro w'
                 go_simp
                 with_reducible rfl
                rotate_left
                ·
                 simp only [Act.put,List.setIfInBounds_toArray,List.set_cons_zero,List.set_cons_succ,Yj,Yu]
                 rfl
                refine ZE (i:=14) (N:=some 77) (v:=?_) (a':=?_) #[true,true,true,true,true,true,true,true,true,true,true,true,true,true,true,true,false,false] rfl rfl (Zb HT_.out (by kernel_rfl)) (fun _ _ _ h=>h) (Or.inl ⟨by rfl,?_⟩) ?_ ?_
                rotate_left
                ·
                 intro w'
                 go_simp
                 with_reducible rfl
                rotate_left
                ·
                 simp only [Act.put,List.setIfInBounds_toArray,List.set_cons_zero,List.set_cons_succ,Yj,Yu]
                 rfl
                exact Gl (by simp only [W8,Act.put,List.setIfInBounds_toArray,List.set_cons_zero,List.set_cons_succ]) (hCont (QH) _ ⟨hHeld,(by (with_reducible repeat (first|apply Kd.R_alloc|apply Kd.R_drewN|apply Kd.R_drew));exact HO_13.out),(by (with_reducible repeat (first|refine Q4 ?_ _|refine Q7 ?_|refine Q2 ?_ _));exact YT.out),(by (with_reducible repeat (first|refine Q4 ?_ _|refine Q7 ?_|refine Q2 ?_ _));exact QZ.out),(by (with_reducible repeat (first|refine Q4 ?_ _|refine Q7 ?_|refine Q2 ?_ _));exact Yy.out),(by (with_reducible repeat (first|refine Q4 ?_ _|refine Q7 ?_|refine Q2 ?_ _));exact ZH.out),ZB.out,Wh.out,Ja.out,Gb.out,Ym.out,Gc.out,Y4.out,Yf.out,(by repeat (first|(with_reducible first|exact HB.out|apply Q3|apply Q1|apply Q6|refine Q5 ?_ ZV.out|refine Q5 ?_ J1.out|refine Q5 ?_ O4.out|refine Q5 ?_ Wh.out)|exact HB.out))⟩)
               rintro QH w50 ⟨hS_,h0_,h1_,h2_,h3_,h4_,h5_,h6_,h7_,h8_,h9_,h10_,h11_,h12_,h13_⟩;have n0_:Q0 (Kd.R (Kd.int .i64) 3 w50 w.heap.size (fun k_=>(w.heap.size≤k_)) u13 G9):=⟨h0_⟩;have n1_:Q0 (w50.heap[ZY]? = some (.cells #[.slice Y3 Qb.length QG,.slice Y1 Qh.length QI,.slice Y5 Qd.length QJ,.int .i64 Yd,.int .i64 Ya] 39 (0,0))):=⟨h1_⟩;have n2_:Q0 (w50.heap[YY]? = some (.cells #[.slice Y3 Qb.length QG,.slice Y1 Qh.length QI,.slice Y5 Qd.length QJ,.int .i64 Yd,.int .i64 Ya] 111 (0,0))):=⟨h2_⟩;have n3_:Q0 (w50.heap[Ys]? = some (.cells #[.int .i64 Zv,.int .i64 Zl,.int .i64 Zh,.int .i64 Zd,.int .i64 Z9,.int .i64 Z4] 115 (0,0))):=⟨h3_⟩;have n4_:Q0 (w50.heap[QH]? = some (.cells #[.int .i64 0,.int .i64 0,.int .i64 0,.int .i64 0,.int .i64 0,.int .i64 0] 115 (0,0))):=⟨h4_⟩;have n5_:Q0 (w.heap.size≤QH):=⟨h5_⟩;have n6_:Q0 (w.heap.size≤QH):=⟨h6_⟩;have n7_:Q0 (ZY≠QH):=⟨h7_⟩;have n8_:Q0 (QH≠ZY):=⟨h8_⟩;have n9_:Q0 (YY≠QH):=⟨h9_⟩;have n10_:Q0 (QH≠YY):=⟨h10_⟩;have n11_:Q0 (Ys≠QH):=⟨h11_⟩;have n12_:Q0 (QH≠Ys):=⟨h12_⟩;have n13_:Q0 (Below w.heap.size w w50):=⟨h13_⟩;clear HO_13 YT QZ Yy HB h0_ h1_ h2_ h3_ h4_ h5_ h6_ h7_ h8_ h9_ h10_ h11_ h12_ h13_;have HO_13:=n0_;have YT:=n1_;have QZ:=n2_;have Yy:=n3_;have ZH:=n4_;have ZB:=n5_;have Wh:=n6_;have Ja:=n7_;have Gb:=n8_;have Ym:=n9_;have Gc:=n10_;have Y4:=n11_;have Yf:=n12_;have HB:=n13_;clear n0_ n1_ n2_ n3_ n4_ n5_ n6_ n7_ n8_ n9_ n10_ n11_ n12_ n13_;have hHeld:w50.cell? ⟨YY,0,none⟩=some (.slice Y3 Qb.length QG)∧w50.cell? ⟨YY,1,none⟩=some (.slice Y1 Qh.length QI)∧w50.cell? ⟨YY,2,none⟩=some (.slice Y5 Qd.length QJ)∧w50.cell? ⟨YY,3,none⟩=some (.int .i64 Yd)∧w50.cell? ⟨YY,4,none⟩=some (.int .i64 Ya)∧w50.cell? ⟨Ys,0,none⟩=some (.int .i64 Zv)∧w50.cell? ⟨Ys,1,none⟩=some (.int .i64 Zl)∧w50.cell? ⟨Ys,2,none⟩=some (.int .i64 Zh)∧w50.cell? ⟨Ys,3,none⟩=some (.int .i64 Zd)∧w50.cell? ⟨Ys,4,none⟩=some (.int .i64 Z9)∧w50.cell? ⟨Ys,5,none⟩=some (.int .i64 Z4)∧w50.cell? (qj5.add (J6).toNat)=some (.int .i64 (rd l1 J6))∧w50.cell? (qj6.add (J6).toNat)=some (.int .i64 (rd l2 J6)):=hS_;refine Gl (a':=?_) ?_ ?_
               rotate_left
               ·
                simp only [W8,Act.put,List.setIfInBounds_toArray,List.set_cons_zero,List.set_cons_succ]
                rfl
               refine ZE (i:=16) (N:=some 15) (v:=?_) (a':=?_) #[true,true,true,true,true,true,true,true,true,true,true,true,true,true,true,true,true,false] rfl rfl (Zb HT_.out (by kernel_rfl)) (fun _ _ _ h=>h) (Or.inl ⟨by rfl,?_⟩) ?_ ?_
               rotate_left
               ·
                intro w'
                go_simp
                with_reducible rfl
               rotate_left
               ·
                simp only [Act.put,List.setIfInBounds_toArray,List.set_cons_zero,List.set_cons_succ,Yj,Yu]
                rfl
               refine one_ (i:=17) (N:=none) #[true,true,true,true,true,true,true,true,true,true,true,true,true,true,true,true,true,true] rfl rfl (KE HT_.out (by kernel_rfl)) (by decide) (fun K hK => ?_);have qDh:w50.cell? ⟨QH,0,none⟩=some (.int .i64 0):=(Q8 ZH.out 0).trans rfl;have qA8:=Q9 ZH.out 0;have qyp:=Ja.out;have qyq:=Ym.out;have qyr:=Y4.out;have qxD:=Gb.out;have qxE:=Gc.out;have qxF:=Yf.out;have qDi:w50.cell? ⟨QH,1,none⟩=some (.int .i64 0):=(Q8 ZH.out 1).trans rfl;have qA9:=Q9 ZH.out 1;have qys:=Ja.out;have qyt:=Ym.out;have qyu:=Y4.out;have qxG:=Gb.out;have qxH:=Gc.out;have qxI:=Yf.out;have qDj:w50.cell? ⟨QH,2,none⟩=some (.int .i64 0):=(Q8 ZH.out 2).trans rfl;have qBa:=Q9 ZH.out 2;have qyv:=Ja.out;have qyw:=Ym.out;have qyx:=Y4.out;have qxJ:=Gb.out;have qxK:=Gc.out;have qxL:=Yf.out;have qDk:w50.cell? ⟨QH,3,none⟩=some (.int .i64 0):=(Q8 ZH.out 3).trans rfl;have qBb:=Q9 ZH.out 3;have qyy:=Ja.out;have qyz:=Ym.out;have qyA:=Y4.out;have qxM:=Gb.out;have qxN:=Gc.out;have qxO:=Yf.out;have qDl:w50.cell? ⟨QH,4,none⟩=some (.int .i64 0):=(Q8 ZH.out 4).trans rfl;have qBc:=Q9 ZH.out 4;have qyB:=Ja.out;have qyC:=Ym.out;have qyD:=Y4.out;have qxP:=Gb.out;have qxQ:=Gc.out;have qxR:=Yf.out;have qDm:w50.cell? ⟨QH,5,none⟩=some (.int .i64 0):=(Q8 ZH.out 5).trans rfl;have qBd:=Q9 ZH.out 5;have qyE:=Ja.out;have qyF:=Ym.out;have qyG:=Y4.out;have qxS:=Gb.out;have qxT:=Gc.out;have qxU:=Yf.out;refine qld (w1:=?_) (by rfl) rfl ?_ ?_
               rotate_left
               ·
                go_simp
                rfl
               refine hK.out _ _ ⟨((Qi (p:=⟨QH,_,none⟩) Ym.out _).trans (((Qi (p:=⟨QH,_,none⟩) Ym.out _).trans (((Qi (p:=⟨QH,_,none⟩) Ym.out _).trans (((Qi (p:=⟨QH,_,none⟩) Ym.out _).trans (((Qi (p:=⟨QH,_,none⟩) Ym.out _).trans (((Qi (p:=⟨QH,_,none⟩) Ym.out _).trans (hHeld.1)))))))))))),((Qi (p:=⟨QH,_,none⟩) Ym.out _).trans (((Qi (p:=⟨QH,_,none⟩) Ym.out _).trans (((Qi (p:=⟨QH,_,none⟩) Ym.out _).trans (((Qi (p:=⟨QH,_,none⟩) Ym.out _).trans (((Qi (p:=⟨QH,_,none⟩) Ym.out _).trans (((Qi (p:=⟨QH,_,none⟩) Ym.out _).trans (hHeld.2.1)))))))))))),((Qi (p:=⟨QH,_,none⟩) Ym.out _).trans (((Qi (p:=⟨QH,_,none⟩) Ym.out _).trans (((Qi (p:=⟨QH,_,none⟩) Ym.out _).trans (((Qi (p:=⟨QH,_,none⟩) Ym.out _).trans (((Qi (p:=⟨QH,_,none⟩) Ym.out _).trans (((Qi (p:=⟨QH,_,none⟩) Ym.out _).trans (hHeld.2.2.1)))))))))))),((Qi (p:=⟨QH,_,none⟩) Ym.out _).trans (((Qi (p:=⟨QH,_,none⟩) Ym.out _).trans (((Qi (p:=⟨QH,_,none⟩) Ym.out _).trans (((Qi (p:=⟨QH,_,none⟩) Ym.out _).trans (((Qi (p:=⟨QH,_,none⟩) Ym.out _).trans (((Qi (p:=⟨QH,_,none⟩) Ym.out _).trans (hHeld.2.2.2.1)))))))))))),((Qi (p:=⟨QH,_,none⟩) Ym.out _).trans (((Qi (p:=⟨QH,_,none⟩) Ym.out _).trans (((Qi (p:=⟨QH,_,none⟩) Ym.out _).trans (((Qi (p:=⟨QH,_,none⟩) Ym.out _).trans (((Qi (p:=⟨QH,_,none⟩) Ym.out _).trans (((Qi (p:=⟨QH,_,none⟩) Ym.out _).trans (hHeld.2.2.2.2.1)))))))))))),((Qi (p:=⟨QH,_,none⟩) Y4.out _).trans (((Qi (p:=⟨QH,_,none⟩) Y4.out _).trans (((Qi (p:=⟨QH,_,none⟩) Y4.out _).trans (((Qi (p:=⟨QH,_,none⟩) Y4.out _).trans (((Qi (p:=⟨QH,_,none⟩) Y4.out _).trans (((Qi (p:=⟨QH,_,none⟩) Y4.out _).trans (hHeld.2.2.2.2.2.1)))))))))))),((Qi (p:=⟨QH,_,none⟩) Y4.out _).trans (((Qi (p:=⟨QH,_,none⟩) Y4.out _).trans (((Qi (p:=⟨QH,_,none⟩) Y4.out _).trans (((Qi (p:=⟨QH,_,none⟩) Y4.out _).trans (((Qi (p:=⟨QH,_,none⟩) Y4.out _).trans (((Qi (p:=⟨QH,_,none⟩) Y4.out _).trans (hHeld.2.2.2.2.2.2.1)))))))))))),((Qi (p:=⟨QH,_,none⟩) Y4.out _).trans (((Qi (p:=⟨QH,_,none⟩) Y4.out _).trans (((Qi (p:=⟨QH,_,none⟩) Y4.out _).trans (((Qi (p:=⟨QH,_,none⟩) Y4.out _).trans (((Qi (p:=⟨QH,_,none⟩) Y4.out _).trans (((Qi (p:=⟨QH,_,none⟩) Y4.out _).trans (hHeld.2.2.2.2.2.2.2.1)))))))))))),((Qi (p:=⟨QH,_,none⟩) Y4.out _).trans (((Qi (p:=⟨QH,_,none⟩) Y4.out _).trans (((Qi (p:=⟨QH,_,none⟩) Y4.out _).trans (((Qi (p:=⟨QH,_,none⟩) Y4.out _).trans (((Qi (p:=⟨QH,_,none⟩) Y4.out _).trans (((Qi (p:=⟨QH,_,none⟩) Y4.out _).trans (hHeld.2.2.2.2.2.2.2.2.1)))))))))))),((Qi (p:=⟨QH,_,none⟩) Y4.out _).trans (((Qi (p:=⟨QH,_,none⟩) Y4.out _).trans (((Qi (p:=⟨QH,_,none⟩) Y4.out _).trans (((Qi (p:=⟨QH,_,none⟩) Y4.out _).trans (((Qi (p:=⟨QH,_,none⟩) Y4.out _).trans (((Qi (p:=⟨QH,_,none⟩) Y4.out _).trans (hHeld.2.2.2.2.2.2.2.2.2.1)))))))))))),((Qi (p:=⟨QH,_,none⟩) Y4.out _).trans (((Qi (p:=⟨QH,_,none⟩) Y4.out _).trans (((Qi (p:=⟨QH,_,none⟩) Y4.out _).trans (((Qi (p:=⟨QH,_,none⟩) Y4.out _).trans (((Qi (p:=⟨QH,_,none⟩) Y4.out _).trans (((Qi (p:=⟨QH,_,none⟩) Y4.out _).trans (hHeld.2.2.2.2.2.2.2.2.2.2.1)))))))))))),((Qi (p:=⟨QH,_,none⟩) (by first|exact Nat.ne_of_lt (Nat.lt_of_lt_of_le (by have:=World.block_lt_of_cell? _ _ Zr;first|rwa [Qg] at this|exact this) ZB.out)|(rw [Qg];exact Nat.ne_of_lt (Nat.lt_of_lt_of_le (by have:=World.block_lt_of_cell? _ _ Zr;first|rwa [Qg] at this|exact this) ZB.out))|(show (Addr.add _ _).block≠_;rw [Qg];exact Nat.ne_of_lt (Nat.lt_of_lt_of_le (by have:=World.block_lt_of_cell? _ _ Zr;first|rwa [Qg] at this|exact this) ZB.out))|(dsimp only;exact Nat.ne_of_lt (Nat.lt_of_lt_of_le (by have:=World.block_lt_of_cell? _ _ Zr;first|rwa [Qg] at this|exact this) ZB.out))) _).trans (((Qi (p:=⟨QH,_,none⟩) (by first|exact Nat.ne_of_lt (Nat.lt_of_lt_of_le (by have:=World.block_lt_of_cell? _ _ Zr;first|rwa [Qg] at this|exact this) ZB.out)|(rw [Qg];exact Nat.ne_of_lt (Nat.lt_of_lt_of_le (by have:=World.block_lt_of_cell? _ _ Zr;first|rwa [Qg] at this|exact this) ZB.out))|(show (Addr.add _ _).block≠_;rw [Qg];exact Nat.ne_of_lt (Nat.lt_of_lt_of_le (by have:=World.block_lt_of_cell? _ _ Zr;first|rwa [Qg] at this|exact this) ZB.out))|(dsimp only;exact Nat.ne_of_lt (Nat.lt_of_lt_of_le (by have:=World.block_lt_of_cell? _ _ Zr;first|rwa [Qg] at this|exact this) ZB.out))) _).trans (((Qi (p:=⟨QH,_,none⟩) (by first|exact Nat.ne_of_lt (Nat.lt_of_lt_of_le (by have:=World.block_lt_of_cell? _ _ Zr;first|rwa [Qg] at this|exact this) ZB.out)|(rw [Qg];exact Nat.ne_of_lt (Nat.lt_of_lt_of_le (by have:=World.block_lt_of_cell? _ _ Zr;first|rwa [Qg] at this|exact this) ZB.out))|(show (Addr.add _ _).block≠_;rw [Qg];exact Nat.ne_of_lt (Nat.lt_of_lt_of_le (by have:=World.block_lt_of_cell? _ _ Zr;first|rwa [Qg] at this|exact this) ZB.out))|(dsimp only;exact Nat.ne_of_lt (Nat.lt_of_lt_of_le (by have:=World.block_lt_of_cell? _ _ Zr;first|rwa [Qg] at this|exact this) ZB.out))) _).trans (((Qi (p:=⟨QH,_,none⟩) (by first|exact Nat.ne_of_lt (Nat.lt_of_lt_of_le (by have:=World.block_lt_of_cell? _ _ Zr;first|rwa [Qg] at this|exact this) ZB.out)|(rw [Qg];exact Nat.ne_of_lt (Nat.lt_of_lt_of_le (by have:=World.block_lt_of_cell? _ _ Zr;first|rwa [Qg] at this|exact this) ZB.out))|(show (Addr.add _ _).block≠_;rw [Qg];exact Nat.ne_of_lt (Nat.lt_of_lt_of_le (by have:=World.block_lt_of_cell? _ _ Zr;first|rwa [Qg] at this|exact this) ZB.out))|(dsimp only;exact Nat.ne_of_lt (Nat.lt_of_lt_of_le (by have:=World.block_lt_of_cell? _ _ Zr;first|rwa [Qg] at this|exact this) ZB.out))) _).trans (((Qi (p:=⟨QH,_,none⟩) (by first|exact Nat.ne_of_lt (Nat.lt_of_lt_of_le (by have:=World.block_lt_of_cell? _ _ Zr;first|rwa [Qg] at this|exact this) ZB.out)|(rw [Qg];exact Nat.ne_of_lt (Nat.lt_of_lt_of_le (by have:=World.block_lt_of_cell? _ _ Zr;first|rwa [Qg] at this|exact this) ZB.out))|(show (Addr.add _ _).block≠_;rw [Qg];exact Nat.ne_of_lt (Nat.lt_of_lt_of_le (by have:=World.block_lt_of_cell? _ _ Zr;first|rwa [Qg] at this|exact this) ZB.out))|(dsimp only;exact Nat.ne_of_lt (Nat.lt_of_lt_of_le (by have:=World.block_lt_of_cell? _ _ Zr;first|rwa [Qg] at this|exact this) ZB.out))) _).trans (((Qi (p:=⟨QH,_,none⟩) (by first|exact Nat.ne_of_lt (Nat.lt_of_lt_of_le (by have:=World.block_lt_of_cell? _ _ Zr;first|rwa [Qg] at this|exact this) ZB.out)|(rw [Qg];exact Nat.ne_of_lt (Nat.lt_of_lt_of_le (by have:=World.block_lt_of_cell? _ _ Zr;first|rwa [Qg] at this|exact this) ZB.out))|(show (Addr.add _ _).block≠_;rw [Qg];exact Nat.ne_of_lt (Nat.lt_of_lt_of_le (by have:=World.block_lt_of_cell? _ _ Zr;first|rwa [Qg] at this|exact this) ZB.out))|(dsimp only;exact Nat.ne_of_lt (Nat.lt_of_lt_of_le (by have:=World.block_lt_of_cell? _ _ Zr;first|rwa [Qg] at this|exact this) ZB.out))) _).trans (hHeld.2.2.2.2.2.2.2.2.2.2.2.1)))))))))))),((Qi (p:=⟨QH,_,none⟩) (by first|exact Nat.ne_of_lt (Nat.lt_of_lt_of_le (by have:=World.block_lt_of_cell? _ _ Zs;first|rwa [Qg] at this|exact this) ZB.out)|(rw [Qg];exact Nat.ne_of_lt (Nat.lt_of_lt_of_le (by have:=World.block_lt_of_cell? _ _ Zs;first|rwa [Qg] at this|exact this) ZB.out))|(show (Addr.add _ _).block≠_;rw [Qg];exact Nat.ne_of_lt (Nat.lt_of_lt_of_le (by have:=World.block_lt_of_cell? _ _ Zs;first|rwa [Qg] at this|exact this) ZB.out))|(dsimp only;exact Nat.ne_of_lt (Nat.lt_of_lt_of_le (by have:=World.block_lt_of_cell? _ _ Zs;first|rwa [Qg] at this|exact this) ZB.out))) _).trans (((Qi (p:=⟨QH,_,none⟩) (by first|exact Nat.ne_of_lt (Nat.lt_of_lt_of_le (by have:=World.block_lt_of_cell? _ _ Zs;first|rwa [Qg] at this|exact this) ZB.out)|(rw [Qg];exact Nat.ne_of_lt (Nat.lt_of_lt_of_le (by have:=World.block_lt_of_cell? _ _ Zs;first|rwa [Qg] at this|exact this) ZB.out))|(show (Addr.add _ _).block≠_;rw [Qg];exact Nat.ne_of_lt (Nat.lt_of_lt_of_le (by have:=World.block_lt_of_cell? _ _ Zs;first|rwa [Qg] at this|exact this) ZB.out))|(dsimp only;exact Nat.ne_of_lt (Nat.lt_of_lt_of_le (by have:=World.block_lt_of_cell? _ _ Zs;first|rwa [Qg] at this|exact this) ZB.out))) _).trans (((Qi (p:=⟨QH,_,none⟩) (by first|exact Nat.ne_of_lt (Nat.lt_of_lt_of_le (by have:=World.block_lt_of_cell? _ _ Zs;first|rwa [Qg] at this|exact this) ZB.out)|(rw [Qg];exact Nat.ne_of_lt (Nat.lt_of_lt_of_le (by have:=World.block_lt_of_cell? _ _ Zs;first|rwa [Qg] at this|exact this) ZB.out))|(show (Addr.add _ _).block≠_;rw [Qg];exact Nat.ne_of_lt (Nat.lt_of_lt_of_le (by have:=World.block_lt_of_cell? _ _ Zs;first|rwa [Qg] at this|exact this) ZB.out))|(dsimp only;exact Nat.ne_of_lt (Nat.lt_of_lt_of_le (by have:=World.block_lt_of_cell? _ _ Zs;first|rwa [Qg] at this|exact this) ZB.out))) _).trans (((Qi (p:=⟨QH,_,none⟩) (by first|exact Nat.ne_of_lt (Nat.lt_of_lt_of_le (by have:=World.block_lt_of_cell? _ _ Zs;first|rwa [Qg] at this|exact this) ZB.out)|(rw [Qg];exact Nat.ne_of_lt (Nat.lt_of_lt_of_le (by have:=World.block_lt_of_cell? _ _ Zs;first|rwa [Qg] at this|exact this) ZB.out))|(show (Addr.add _ _).block≠_;rw [Qg];exact Nat.ne_of_lt (Nat.lt_of_lt_of_le (by have:=World.block_lt_of_cell? _ _ Zs;first|rwa [Qg] at this|exact this) ZB.out))|(dsimp only;exact Nat.ne_of_lt (Nat.lt_of_lt_of_le (by have:=World.block_lt_of_cell? _ _ Zs;first|rwa [Qg] at this|exact this) ZB.out))) _).trans (((Qi (p:=⟨QH,_,none⟩) (by first|exact Nat.ne_of_lt (Nat.lt_of_lt_of_le (by have:=World.block_lt_of_cell? _ _ Zs;first|rwa [Qg] at this|exact this) ZB.out)|(rw [Qg];exact Nat.ne_of_lt (Nat.lt_of_lt_of_le (by have:=World.block_lt_of_cell? _ _ Zs;first|rwa [Qg] at this|exact this) ZB.out))|(show (Addr.add _ _).block≠_;rw [Qg];exact Nat.ne_of_lt (Nat.lt_of_lt_of_le (by have:=World.block_lt_of_cell? _ _ Zs;first|rwa [Qg] at this|exact this) ZB.out))|(dsimp only;exact Nat.ne_of_lt (Nat.lt_of_lt_of_le (by have:=World.block_lt_of_cell? _ _ Zs;first|rwa [Qg] at this|exact this) ZB.out))) _).trans (((Qi (p:=⟨QH,_,none⟩) (by first|exact Nat.ne_of_lt (Nat.lt_of_lt_of_le (by have:=World.block_lt_of_cell? _ _ Zs;first|rwa [Qg] at this|exact this) ZB.out)|(rw [Qg];exact Nat.ne_of_lt (Nat.lt_of_lt_of_le (by have:=World.block_lt_of_cell? _ _ Zs;first|rwa [Qg] at this|exact this) ZB.out))|(show (Addr.add _ _).block≠_;rw [Qg];exact Nat.ne_of_lt (Nat.lt_of_lt_of_le (by have:=World.block_lt_of_cell? _ _ Zs;first|rwa [Qg] at this|exact this) ZB.out))|(dsimp only;exact Nat.ne_of_lt (Nat.lt_of_lt_of_le (by have:=World.block_lt_of_cell? _ _ Zs;first|rwa [Qg] at this|exact this) ZB.out))) _).trans (hHeld.2.2.2.2.2.2.2.2.2.2.2.2))))))))))))⟩ (fun hHeld => ?_);clear hK K;refine qdl (XI HT_.out (by kernel_rfl)) ?_
               try go_wp2
               have n0_:Q0 (Kd.R (Kd.int .i64) 3 ((((((w50.setCell ⟨QH,0,none⟩ (.int .i64 Kv)).setCell ⟨QH,1,none⟩ (.int .i64 t173)).setCell ⟨QH,2,none⟩ (.int .i64 Ob)).setCell ⟨QH,3,none⟩ (.int .i64 t175)).setCell ⟨QH,4,none⟩ (.int .i64 OP)).setCell ⟨QH,5,none⟩ (.int .i64 UN)) w.heap.size (fun k_=>(w.heap.size≤k_)) u13 G9):=⟨by (with_reducible repeat (first|apply Kd.R_alloc|apply Kd.R_drewN|apply Kd.R_drew));exact Kd.R_mono (Kd.R_far (p:=⟨QH,5,none⟩) (Kd.R_far (p:=⟨QH,4,none⟩) (Kd.R_far (p:=⟨QH,3,none⟩) (Kd.R_far (p:=⟨QH,2,none⟩) (Kd.R_far (p:=⟨QH,1,none⟩) (Kd.R_far (p:=⟨QH,0,none⟩) (Kd.R_types HO_13.out ZH.out (by decide)) (fun _ hk=>hk.2) (.int .i64 Kv)) (fun _ hk=>hk.2) (.int .i64 t173)) (fun _ hk=>hk.2) (.int .i64 Ob)) (fun _ hk=>hk.2) (.int .i64 t175)) (fun _ hk=>hk.2) (.int .i64 OP)) (fun _ hk=>hk.2) (.int .i64 UN)) (fun _ hk=>hk.1)⟩;have n1_:Q0 (((((((w50.setCell ⟨QH,0,none⟩ (.int .i64 Kv)).setCell ⟨QH,1,none⟩ (.int .i64 t173)).setCell ⟨QH,2,none⟩ (.int .i64 Ob)).setCell ⟨QH,3,none⟩ (.int .i64 t175)).setCell ⟨QH,4,none⟩ (.int .i64 OP)).setCell ⟨QH,5,none⟩ (.int .i64 UN)).heap[ZY]? = some (.cells #[.slice Y3 Qb.length QG,.slice Y1 Qh.length QI,.slice Y5 Qd.length QJ,.int .i64 Yd,.int .i64 Ya] 39 (0,0))):=⟨by (with_reducible repeat (first|refine Q4 ?_ _|refine Q7 ?_|refine Q2 ?_ _));refine Qk ?_ Ja.out _;(with_reducible repeat (first|refine Q4 ?_ _|refine Q7 ?_|refine Q2 ?_ _));refine Qk ?_ Ja.out _;(with_reducible repeat (first|refine Q4 ?_ _|refine Q7 ?_|refine Q2 ?_ _));refine Qk ?_ Ja.out _;(with_reducible repeat (first|refine Q4 ?_ _|refine Q7 ?_|refine Q2 ?_ _));refine Qk ?_ Ja.out _;(with_reducible repeat (first|refine Q4 ?_ _|refine Q7 ?_|refine Q2 ?_ _));refine Qk ?_ Ja.out _;(with_reducible repeat (first|refine Q4 ?_ _|refine Q7 ?_|refine Q2 ?_ _));refine Qk ?_ Ja.out _;(with_reducible repeat (first|refine Q4 ?_ _|refine Q7 ?_|refine Q2 ?_ _));exact YT.out⟩;have n2_:Q0 (((((((w50.setCell ⟨QH,0,none⟩ (.int .i64 Kv)).setCell ⟨QH,1,none⟩ (.int .i64 t173)).setCell ⟨QH,2,none⟩ (.int .i64 Ob)).setCell ⟨QH,3,none⟩ (.int .i64 t175)).setCell ⟨QH,4,none⟩ (.int .i64 OP)).setCell ⟨QH,5,none⟩ (.int .i64 UN)).heap[YY]? = some (.cells #[.slice Y3 Qb.length QG,.slice Y1 Qh.length QI,.slice Y5 Qd.length QJ,.int .i64 Yd,.int .i64 Ya] 111 (0,0))):=⟨by (with_reducible repeat (first|refine Q4 ?_ _|refine Q7 ?_|refine Q2 ?_ _));refine Qk ?_ Ym.out _;(with_reducible repeat (first|refine Q4 ?_ _|refine Q7 ?_|refine Q2 ?_ _));refine Qk ?_ Ym.out _;(with_reducible repeat (first|refine Q4 ?_ _|refine Q7 ?_|refine Q2 ?_ _));refine Qk ?_ Ym.out _;(with_reducible repeat (first|refine Q4 ?_ _|refine Q7 ?_|refine Q2 ?_ _));refine Qk ?_ Ym.out _;(with_reducible repeat (first|refine Q4 ?_ _|refine Q7 ?_|refine Q2 ?_ _));refine Qk ?_ Ym.out _;(with_reducible repeat (first|refine Q4 ?_ _|refine Q7 ?_|refine Q2 ?_ _));refine Qk ?_ Ym.out _;(with_reducible repeat (first|refine Q4 ?_ _|refine Q7 ?_|refine Q2 ?_ _));exact QZ.out⟩;have n3_:Q0 (((((((w50.setCell ⟨QH,0,none⟩ (.int .i64 Kv)).setCell ⟨QH,1,none⟩ (.int .i64 t173)).setCell ⟨QH,2,none⟩ (.int .i64 Ob)).setCell ⟨QH,3,none⟩ (.int .i64 t175)).setCell ⟨QH,4,none⟩ (.int .i64 OP)).setCell ⟨QH,5,none⟩ (.int .i64 UN)).heap[Ys]? = some (.cells #[.int .i64 Zv,.int .i64 Zl,.int .i64 Zh,.int .i64 Zd,.int .i64 Z9,.int .i64 Z4] 115 (0,0))):=⟨by (with_reducible repeat (first|refine Q4 ?_ _|refine Q7 ?_|refine Q2 ?_ _));refine Qk ?_ Y4.out _;(with_reducible repeat (first|refine Q4 ?_ _|refine Q7 ?_|refine Q2 ?_ _));refine Qk ?_ Y4.out _;(with_reducible repeat (first|refine Q4 ?_ _|refine Q7 ?_|refine Q2 ?_ _));refine Qk ?_ Y4.out _;(with_reducible repeat (first|refine Q4 ?_ _|refine Q7 ?_|refine Q2 ?_ _));refine Qk ?_ Y4.out _;(with_reducible repeat (first|refine Q4 ?_ _|refine Q7 ?_|refine Q2 ?_ _));refine Qk ?_ Y4.out _;(with_reducible repeat (first|refine Q4 ?_ _|refine Q7 ?_|refine Q2 ?_ _));refine Qk ?_ Y4.out _;(with_reducible repeat (first|refine Q4 ?_ _|refine Q7 ?_|refine Q2 ?_ _));exact Yy.out⟩;have n4_:Q0 (((((((w50.setCell ⟨QH,0,none⟩ (.int .i64 Kv)).setCell ⟨QH,1,none⟩ (.int .i64 t173)).setCell ⟨QH,2,none⟩ (.int .i64 Ob)).setCell ⟨QH,3,none⟩ (.int .i64 t175)).setCell ⟨QH,4,none⟩ (.int .i64 OP)).setCell ⟨QH,5,none⟩ (.int .i64 UN)).heap[QH]? = some (.cells #[.int .i64 Kv,.int .i64 t173,.int .i64 Ob,.int .i64 t175,.int .i64 OP,.int .i64 UN] 115 (0,0))):=⟨by (with_reducible repeat (first|refine Q4 ?_ _|refine Q7 ?_|refine Q2 ?_ _));refine Qu (cs:=#[.int .i64 Kv,.int .i64 t173,.int .i64 Ob,.int .i64 t175,.int .i64 OP,.int .i64 0]) ?_ 5 _ rfl;(with_reducible repeat (first|refine Q4 ?_ _|refine Q7 ?_|refine Q2 ?_ _));refine Qu (cs:=#[.int .i64 Kv,.int .i64 t173,.int .i64 Ob,.int .i64 t175,.int .i64 0,.int .i64 0]) ?_ 4 _ rfl;(with_reducible repeat (first|refine Q4 ?_ _|refine Q7 ?_|refine Q2 ?_ _));refine Qu (cs:=#[.int .i64 Kv,.int .i64 t173,.int .i64 Ob,.int .i64 0,.int .i64 0,.int .i64 0]) ?_ 3 _ rfl;(with_reducible repeat (first|refine Q4 ?_ _|refine Q7 ?_|refine Q2 ?_ _));refine Qu (cs:=#[.int .i64 Kv,.int .i64 t173,.int .i64 0,.int .i64 0,.int .i64 0,.int .i64 0]) ?_ 2 _ rfl;(with_reducible repeat (first|refine Q4 ?_ _|refine Q7 ?_|refine Q2 ?_ _));refine Qu (cs:=#[.int .i64 Kv,.int .i64 0,.int .i64 0,.int .i64 0,.int .i64 0,.int .i64 0]) ?_ 1 _ rfl;(with_reducible repeat (first|refine Q4 ?_ _|refine Q7 ?_|refine Q2 ?_ _));refine Qu (cs:=#[.int .i64 0,.int .i64 0,.int .i64 0,.int .i64 0,.int .i64 0,.int .i64 0]) ?_ 0 _ rfl;(with_reducible repeat (first|refine Q4 ?_ _|refine Q7 ?_|refine Q2 ?_ _));exact ZH.out⟩;have n5_:Q0 (Below w.heap.size w ((((((w50.setCell ⟨QH,0,none⟩ (.int .i64 Kv)).setCell ⟨QH,1,none⟩ (.int .i64 t173)).setCell ⟨QH,2,none⟩ (.int .i64 Ob)).setCell ⟨QH,3,none⟩ (.int .i64 t175)).setCell ⟨QH,4,none⟩ (.int .i64 OP)).setCell ⟨QH,5,none⟩ (.int .i64 UN))):=⟨by repeat (first|(with_reducible first|exact HB.out|apply Q3|apply Q1|apply Q6|refine Q5 ?_ ZV.out|refine Q5 ?_ J1.out|refine Q5 ?_ O4.out|refine Q5 ?_ Wh.out)|exact HB.out)⟩
               (try clear HO_13)
               (try clear YT)
               (try clear QZ)
               (try clear Yy)
               (try clear ZH)
               (try clear HB)
               generalize ((((((w50.setCell ⟨QH,0,none⟩ (.int .i64 Kv)).setCell ⟨QH,1,none⟩ (.int .i64 t173)).setCell ⟨QH,2,none⟩ (.int .i64 Ob)).setCell ⟨QH,3,none⟩ (.int .i64 t175)).setCell ⟨QH,4,none⟩ (.int .i64 OP)).setCell ⟨QH,5,none⟩ (.int .i64 UN))=w57 at n0_ n1_ n2_ n3_ n4_ n5_ ⊢
               have HO_13:=n0_;have YT:=n1_;have QZ:=n2_;have Yy:=n3_;have ZH:=n4_;have HB:=n5_;clear n0_ n1_ n2_ n3_ n4_ n5_;have n0_:=Q0.mk (Kd.R_drew HO_13.out);have n1_:=Q0.mk (Q7 YT.out);have n2_:=Q0.mk (Q7 QZ.out);have n3_:=Q0.mk (Q7 Yy.out);have n4_:=Q0.mk (Q7 ZH.out);have n5_:=Q0.mk (Q6 HB.out);clear HO_13 YT QZ Yy ZH HB;have HO_13:=n0_;have YT:=n1_;have QZ:=n2_;have Yy:=n3_;have ZH:=n4_;have HB:=n5_;clear n0_ n1_ n2_ n3_ n4_ n5_;refine qaS (n:=7) (S:=fun w'=>w'.cell? ⟨QH,0,none⟩=some (.int .i64 Kv)∧w'.cell? ⟨QH,1,none⟩=some (.int .i64 t173)∧w'.cell? ⟨QH,2,none⟩=some (.int .i64 Ob)∧w'.cell? ⟨QH,3,none⟩=some (.int .i64 t175)∧w'.cell? ⟨QH,4,none⟩=some (.int .i64 OP)∧w'.cell? ⟨QH,5,none⟩=some (.int .i64 UN)) (ds:=[]) #[false,false,false,false,false,false,false] (by kernel_rfl) rfl rfl ⟨(Q8 ZH.out 0).trans rfl,(Q8 ZH.out 1).trans rfl,(Q8 ZH.out 2).trans rfl,(Q8 ZH.out 3).trans rfl,(Q8 ZH.out 4).trans rfl,(Q8 ZH.out 5).trans rfl⟩ (fun hHeld => ?_)
               generalize w57.drew=w58 at HO_13 YT QZ Yy ZH HB hHeld ⊢
               refine ZE (i:=0) (N:=some 78) (v:=?_) (a':=?_) #[true,false,false,false,false,false,false] rfl rfl (by kernel_rfl) (fun _ _ _ h=>h) (Or.inl ⟨by rfl,?_⟩) ?_ ?_
               rotate_left
               ·
                intro w'
                go_simp
                with_reducible rfl
               rotate_left
               ·
                simp only [Act.put,List.setIfInBounds_toArray,List.set_cons_zero,List.set_cons_succ,Yj,Yu]
                rfl
               refine ZE (i:=1) (N:=some 79) (v:=?_) (a':=?_) #[true,true,false,false,false,false,false] rfl rfl (by kernel_rfl) (fun _ _ _ h=>h) (Or.inl ⟨by rfl,?_⟩) ?_ ?_
               rotate_left
               ·
                intro w'
                go_simp
                with_reducible rfl
               rotate_left
               ·
                simp only [Act.put,List.setIfInBounds_toArray,List.set_cons_zero,List.set_cons_succ,Yj,Yu]
                rfl
               refine Oh (i:=4) (N:=some 82) (v:=?_) (a':=?_) #[true,true,false,false,true,false,false] rfl rfl (by kernel_rfl) (fun _ _ _ h=>h) (Or.inl ⟨by rfl,?_⟩) hHeld ?_ ?_
               rotate_left
               ·
                rintro w' ⟨s0,s1,s2,s3,s4,s5⟩
                go_simp
                with_reducible rfl
               rotate_left
               ·
                simp only [Act.put,List.setIfInBounds_toArray,List.set_cons_zero,List.set_cons_succ,Yj,Yu]
                rfl
               refine one_ (i:=2) (N:=some 80) #[true,true,true,false,true,false,false] rfl rfl (by kernel_rfl) (by decide) (fun K hK => ?_);refine qhK (w1:=?_) (v:=?_) (by rfl) rfl ?_ ?_
               rotate_left 2
               ·
                go_simp
                constructor
                ·
                 rfl
                rfl
               refine hK.out _ _ ⟨(Q8 (Q2 ZH.out _) 0).trans rfl,(Q8 (Q2 ZH.out _) 1).trans rfl,(Q8 (Q2 ZH.out _) 2).trans rfl,(Q8 (Q2 ZH.out _) 3).trans rfl,(Q8 (Q2 ZH.out _) 4).trans rfl,(Q8 (Q2 ZH.out _) 5).trans rfl⟩ (fun hHeld => ?_);clear hK K;refine Gl (a':=?_) ?_ ?_
               rotate_left
               ·
                show Act.put _ (some 80) _=_
                simp only [Act.put,List.setIfInBounds_toArray,List.set_cons_zero,List.set_cons_succ,Yj,Yu]
                rfl
               refine one_ (i:=3) (N:=some 81) #[true,true,true,true,true,false,false] rfl rfl (by kernel_rfl) (by decide) (fun K hK => ?_);refine Kd.R_append_step (Kd.int .i64) (w0:=w) w.heap.size (by rfl) (.tmp 78) (.tmp 80) 37 3 (.int .i64 0) 8 rfl Try.underlying37 Xc rfl (by decide) (by omega) u13 G9 t171 [.int .i64 t171] (fun k_=>(w.heap.size≤k_)) (fun _=>False) rfl rfl ?aP (fun _ hk=>hk.elim) ?aF ?aO ?aB ?aS ?aL ?_
               (case aP=>exact rfl)
               (case aB=>exact (by repeat (first|(with_reducible first|exact HB.out|apply Q3|apply Q1|apply Q6|refine Q5 ?_ ZV.out|refine Q5 ?_ J1.out|refine Q5 ?_ O4.out|refine Q5 ?_ Wh.out)|exact HB.out)))
               (case aF=>exact (fun k_ hk=>(Nat.le_trans (Qf (by repeat (first|(with_reducible first|exact HB.out|apply Q3|apply Q1|apply Q6|refine Q5 ?_ ZV.out|refine Q5 ?_ J1.out|refine Q5 ?_ O4.out|refine Q5 ?_ Wh.out)|exact HB.out))) hk)))
               (case aO=>exact (by (with_reducible repeat (first|apply Kd.R_alloc|apply Kd.R_drewN|apply Kd.R_drew));exact HO_13.out))
               (case aS=>exact (Qf (by repeat (first|(with_reducible first|exact HB.out|apply Q3|apply Q1|apply Q6|refine Q5 ?_ ZV.out|refine Q5 ?_ J1.out|refine Q5 ?_ O4.out|refine Q5 ?_ Wh.out)|exact HB.out))))
               (case aL=>have:=qqM.out;omega)
               intro qDG w59 ho hb hg hat;rw [← qqN.out] at ho;have n0_:=Q0.mk (JK (g:=ZY) (by (with_reducible repeat (first|refine Q4 ?_ _|refine Q7 ?_|refine Q2 ?_ _));exact YT.out) hg (Kd.R_ne HO_13.out YT.out (by decide)));have n1_:=Q0.mk (JK (g:=YY) (by (with_reducible repeat (first|refine Q4 ?_ _|refine Q7 ?_|refine Q2 ?_ _));exact QZ.out) hg (Kd.R_ne HO_13.out QZ.out (by decide)));have n2_:=Q0.mk (JK (g:=Ys) (by (with_reducible repeat (first|refine Q4 ?_ _|refine Q7 ?_|refine Q2 ?_ _));exact Yy.out) hg (Kd.R_ne HO_13.out Yy.out (by decide)));have n3_:=Q0.mk (JK (g:=QH) (by (with_reducible repeat (first|refine Q4 ?_ _|refine Q7 ?_|refine Q2 ?_ _));exact ZH.out) hg (Kd.R_ne HO_13.out ZH.out (by decide)));have n4_:=Q0.mk (hb);have n5_:=Q0.mk (ho);clear YT QZ Yy ZH HB HO_13;have YT:=n0_;have QZ:=n1_;have Yy:=n2_;have ZH:=n3_;have HB:=n4_;have qqD:=n5_;clear n0_ n1_ n2_ n3_ n4_ n5_ ho hb hg hat;refine hK.out _ _ ⟨(Q8 ZH.out 0).trans rfl,(Q8 ZH.out 1).trans rfl,(Q8 ZH.out 2).trans rfl,(Q8 ZH.out 3).trans rfl,(Q8 ZH.out 4).trans rfl,(Q8 ZH.out 5).trans rfl⟩ (fun hHeld => ?_);clear hK K;refine Gl (a':=?_) ?_ ?_
               rotate_left
               ·
                show Act.put _ (some 81) _=_
                simp only [Act.put,List.setIfInBounds_toArray,List.set_cons_zero,List.set_cons_succ,Yj,Yu]
                rfl
               refine ZE (i:=5) (N:=some 13) (v:=?_) (a':=?_) #[true,true,true,true,true,true,false] rfl rfl (by kernel_rfl) (fun _ _ _ h=>h) (Or.inl ⟨by rfl,?_⟩) ?_ ?_
               rotate_left
               ·
                intro w'
                go_simp
                with_reducible rfl
               rotate_left
               ·
                simp only [Act.put,List.setIfInBounds_toArray,List.set_cons_zero,List.set_cons_succ,Yj,Yu]
                rfl
               refine one_ (i:=6) (N:=none) #[true,true,true,true,true,true,true] rfl rfl (by kernel_rfl) (by decide) (fun K hK => ?_);have qDn:w59.cell? ⟨Ys,0,none⟩=some (.int .i64 Zv):=(Q8 Yy.out 0).trans rfl;have qBe:=Q9 Yy.out 0;have qyH:=ZQ.out;have qyI:=ZR.out;have qyJ:=Yf.out;have qxV:=KL.out;have qxW:=KM.out;have qxX:=Y4.out;have qDo:w59.cell? ⟨Ys,1,none⟩=some (.int .i64 Zl):=(Q8 Yy.out 1).trans rfl;have qBf:=Q9 Yy.out 1;have qyK:=ZQ.out;have qyL:=ZR.out;have qyM:=Yf.out;have qxY:=KL.out;have qxZ:=KM.out;have qx0:=Y4.out;have qDp:w59.cell? ⟨Ys,2,none⟩=some (.int .i64 Zh):=(Q8 Yy.out 2).trans rfl;have qBg:=Q9 Yy.out 2;have qyN:=ZQ.out;have qyO:=ZR.out;have qyP:=Yf.out;have qx1:=KL.out;have qx2:=KM.out;have qx3:=Y4.out;have qDq:w59.cell? ⟨Ys,3,none⟩=some (.int .i64 Zd):=(Q8 Yy.out 3).trans rfl;have qBh:=Q9 Yy.out 3;have qyQ:=ZQ.out;have qyR:=ZR.out;have qyS:=Yf.out;have qx4:=KL.out;have qx5:=KM.out;have qx6:=Y4.out;have qDr:w59.cell? ⟨Ys,4,none⟩=some (.int .i64 Z9):=(Q8 Yy.out 4).trans rfl;have qBi:=Q9 Yy.out 4;have qyT:=ZQ.out;have qyU:=ZR.out;have qyV:=Yf.out;have qx7:=KL.out;have qx8:=KM.out;have qx9:=Y4.out;have qDs:w59.cell? ⟨Ys,5,none⟩=some (.int .i64 Z4):=(Q8 Yy.out 5).trans rfl;have qBj:=Q9 Yy.out 5;have qyW:=ZQ.out;have qyX:=ZR.out;have qyY:=Yf.out;have qya:=KL.out;have qyb:=KM.out;have qyc:=Y4.out;refine qld (w1:=?_) (by rfl) rfl ?_ ?_
               rotate_left
               ·
                go_simp
                rfl
               refine hK.out _ _ ⟨((Qi (p:=⟨Ys,_,none⟩) Yf.out _).trans (((Qi (p:=⟨Ys,_,none⟩) Yf.out _).trans (((Qi (p:=⟨Ys,_,none⟩) Yf.out _).trans (((Qi (p:=⟨Ys,_,none⟩) Yf.out _).trans (((Qi (p:=⟨Ys,_,none⟩) Yf.out _).trans (((Qi (p:=⟨Ys,_,none⟩) Yf.out _).trans (hHeld.1)))))))))))),((Qi (p:=⟨Ys,_,none⟩) Yf.out _).trans (((Qi (p:=⟨Ys,_,none⟩) Yf.out _).trans (((Qi (p:=⟨Ys,_,none⟩) Yf.out _).trans (((Qi (p:=⟨Ys,_,none⟩) Yf.out _).trans (((Qi (p:=⟨Ys,_,none⟩) Yf.out _).trans (((Qi (p:=⟨Ys,_,none⟩) Yf.out _).trans (hHeld.2.1)))))))))))),((Qi (p:=⟨Ys,_,none⟩) Yf.out _).trans (((Qi (p:=⟨Ys,_,none⟩) Yf.out _).trans (((Qi (p:=⟨Ys,_,none⟩) Yf.out _).trans (((Qi (p:=⟨Ys,_,none⟩) Yf.out _).trans (((Qi (p:=⟨Ys,_,none⟩) Yf.out _).trans (((Qi (p:=⟨Ys,_,none⟩) Yf.out _).trans (hHeld.2.2.1)))))))))))),((Qi (p:=⟨Ys,_,none⟩) Yf.out _).trans (((Qi (p:=⟨Ys,_,none⟩) Yf.out _).trans (((Qi (p:=⟨Ys,_,none⟩) Yf.out _).trans (((Qi (p:=⟨Ys,_,none⟩) Yf.out _).trans (((Qi (p:=⟨Ys,_,none⟩) Yf.out _).trans (((Qi (p:=⟨Ys,_,none⟩) Yf.out _).trans (hHeld.2.2.2.1)))))))))))),((Qi (p:=⟨Ys,_,none⟩) Yf.out _).trans (((Qi (p:=⟨Ys,_,none⟩) Yf.out _).trans (((Qi (p:=⟨Ys,_,none⟩) Yf.out _).trans (((Qi (p:=⟨Ys,_,none⟩) Yf.out _).trans (((Qi (p:=⟨Ys,_,none⟩) Yf.out _).trans (((Qi (p:=⟨Ys,_,none⟩) Yf.out _).trans (hHeld.2.2.2.2.1)))))))))))),((Qi (p:=⟨Ys,_,none⟩) Yf.out _).trans (((Qi (p:=⟨Ys,_,none⟩) Yf.out _).trans (((Qi (p:=⟨Ys,_,none⟩) Yf.out _).trans (((Qi (p:=⟨Ys,_,none⟩) Yf.out _).trans (((Qi (p:=⟨Ys,_,none⟩) Yf.out _).trans (((Qi (p:=⟨Ys,_,none⟩) Yf.out _).trans (hHeld.2.2.2.2.2))))))))))))⟩ (fun hHeld => ?_);clear hK K;refine qdl (by kernel_rfl) ?_
               try go_wp2
               go_roundg k4
               case measure=>have:=HJ3.out;have:=HK2.out;have:=Kw.out;have:=HK4.out;omega
               case rel=>exact ⟨(qtf),(wrap64 (J6+1)),(Kv),(t173),(Ob),(t175),(OP),(UN),(by first|rfl|(simp;done)|(simp [*];done)),H',⟨by have:=HJ3.out;have:=HK2.out;have:=Kw.out;have:=HK4.out;omega⟩,⟨by (with_reducible repeat (first|apply Kd.R_alloc|apply Kd.R_drewN|apply Kd.R_drew));exact Kd.R_mono (Kd.R_far (p:=⟨Ys,5,none⟩) (Kd.R_far (p:=⟨Ys,4,none⟩) (Kd.R_far (p:=⟨Ys,3,none⟩) (Kd.R_far (p:=⟨Ys,2,none⟩) (Kd.R_far (p:=⟨Ys,1,none⟩) (Kd.R_far (p:=⟨Ys,0,none⟩) (Kd.R_types qqD.out Yy.out (by decide)) (fun _ hk=>hk.2) (.int .i64 Kv)) (fun _ hk=>hk.2) (.int .i64 t173)) (fun _ hk=>hk.2) (.int .i64 Ob)) (fun _ hk=>hk.2) (.int .i64 t175)) (fun _ hk=>hk.2) (.int .i64 OP)) (fun _ hk=>hk.2) (.int .i64 UN)) (fun _ hk=>hk.1)⟩,⟨by (with_reducible repeat (first|refine Q4 ?_ _|refine Q7 ?_|refine Q2 ?_ _));refine Qk ?_ ZQ.out _;(with_reducible repeat (first|refine Q4 ?_ _|refine Q7 ?_|refine Q2 ?_ _));refine Qk ?_ ZQ.out _;(with_reducible repeat (first|refine Q4 ?_ _|refine Q7 ?_|refine Q2 ?_ _));refine Qk ?_ ZQ.out _;(with_reducible repeat (first|refine Q4 ?_ _|refine Q7 ?_|refine Q2 ?_ _));refine Qk ?_ ZQ.out _;(with_reducible repeat (first|refine Q4 ?_ _|refine Q7 ?_|refine Q2 ?_ _));refine Qk ?_ ZQ.out _;(with_reducible repeat (first|refine Q4 ?_ _|refine Q7 ?_|refine Q2 ?_ _));refine Qk ?_ ZQ.out _;(with_reducible repeat (first|refine Q4 ?_ _|refine Q7 ?_|refine Q2 ?_ _));exact YT.out⟩,⟨by (with_reducible repeat (first|refine Q4 ?_ _|refine Q7 ?_|refine Q2 ?_ _));refine Qk ?_ ZR.out _;(with_reducible repeat (first|refine Q4 ?_ _|refine Q7 ?_|refine Q2 ?_ _));refine Qk ?_ ZR.out _;(with_reducible repeat (first|refine Q4 ?_ _|refine Q7 ?_|refine Q2 ?_ _));refine Qk ?_ ZR.out _;(with_reducible repeat (first|refine Q4 ?_ _|refine Q7 ?_|refine Q2 ?_ _));refine Qk ?_ ZR.out _;(with_reducible repeat (first|refine Q4 ?_ _|refine Q7 ?_|refine Q2 ?_ _));refine Qk ?_ ZR.out _;(with_reducible repeat (first|refine Q4 ?_ _|refine Q7 ?_|refine Q2 ?_ _));refine Qk ?_ ZR.out _;(with_reducible repeat (first|refine Q4 ?_ _|refine Q7 ?_|refine Q2 ?_ _));exact QZ.out⟩,⟨by (with_reducible repeat (first|refine Q4 ?_ _|refine Q7 ?_|refine Q2 ?_ _));refine Qu (cs:=#[.int .i64 Kv,.int .i64 t173,.int .i64 Ob,.int .i64 t175,.int .i64 OP,.int .i64 Z4]) ?_ 5 _ rfl;(with_reducible repeat (first|refine Q4 ?_ _|refine Q7 ?_|refine Q2 ?_ _));refine Qu (cs:=#[.int .i64 Kv,.int .i64 t173,.int .i64 Ob,.int .i64 t175,.int .i64 Z9,.int .i64 Z4]) ?_ 4 _ rfl;(with_reducible repeat (first|refine Q4 ?_ _|refine Q7 ?_|refine Q2 ?_ _));refine Qu (cs:=#[.int .i64 Kv,.int .i64 t173,.int .i64 Ob,.int .i64 Zd,.int .i64 Z9,.int .i64 Z4]) ?_ 3 _ rfl;(with_reducible repeat (first|refine Q4 ?_ _|refine Q7 ?_|refine Q2 ?_ _));refine Qu (cs:=#[.int .i64 Kv,.int .i64 t173,.int .i64 Zh,.int .i64 Zd,.int .i64 Z9,.int .i64 Z4]) ?_ 2 _ rfl;(with_reducible repeat (first|refine Q4 ?_ _|refine Q7 ?_|refine Q2 ?_ _));refine Qu (cs:=#[.int .i64 Kv,.int .i64 Zl,.int .i64 Zh,.int .i64 Zd,.int .i64 Z9,.int .i64 Z4]) ?_ 1 _ rfl;(with_reducible repeat (first|refine Q4 ?_ _|refine Q7 ?_|refine Q2 ?_ _));refine Qu (cs:=#[.int .i64 Zv,.int .i64 Zl,.int .i64 Zh,.int .i64 Zd,.int .i64 Z9,.int .i64 Z4]) ?_ 0 _ rfl;(with_reducible repeat (first|refine Q4 ?_ _|refine Q7 ?_|refine Q2 ?_ _));exact Yy.out⟩,⟨by repeat (first|(with_reducible first|exact HB.out|apply Q3|apply Q1|apply Q6|refine Q5 ?_ ZV.out|refine Q5 ?_ J1.out|refine Q5 ?_ O4.out|refine Q5 ?_ Wh.out)|exact HB.out)⟩⟩
              rw [if_neg c46] at H
              exact absurd H (by simp)
             rw [if_neg c44] at H
             exact absurd H (by simp)
            rw [if_neg c43] at H
            exact absurd H (by simp)
           rw [if_neg c42] at H
           exact absurd H (by simp)
          rw [if_neg c41] at H;have c41b0:decide (J6<(l1.length:Int))=false:=decide_eq_false c41;clear c41
          by_cases c66:0≤(G9.length:Int)
          ·
           rw [if_pos c66] at H;have c66b0:=eq_true c66;have c66b1:decide (0≤(G9.length:Int))=true:=decide_eq_true c66;clear c66
           by_cases c67:(G9.length:Int)≤(G9.length:Int)
           ·
            rw [if_pos c67] at H;have c67b0:=eq_true c67;have c67b1:decide ((G9.length:Int)≤(G9.length:Int))=true:=decide_eq_true c67;clear c67;obtain ⟨qp6,qft⟩:∃ y_:List Int,y_=(G9.take ((G9.length:Int):Int).toNat):=⟨_,rfl⟩
            replace H:(some (qp6,0))=some (r1,r2):=by first|(rw [qft];with_reducible exact H)|(have H2_:=(Option.bind_some _ _).symm.trans H;rw [qft];with_reducible exact H2_)|(have H2_:=(Option.bind_some _ _).symm.trans H;with_reducible exact H2_)|with_reducible exact H|(rw [qft];exact H)|exact H
            have qn3:=Q0.mk qft;clear qft;simp only [Option.some.injEq,Prod.mk.injEq] at H;obtain ⟨rfl,rfl⟩:=H;obtain ⟨qza,qzq,qzP⟩:=Kd.R_slice HO_13.out;subst qzP;have q69:((G9.length:Int):Int)≤((G9.length:Int):Int):=of_decide_eq_true (by first|(with_reducible assumption)|assumption);obtain ⟨qDB,qoz,_,qs4,_⟩:=info_parts Xc;have qzV:=UG (P:=Try.prog) 37 3 Try.underlying37 qoz qza G9.length qzq (Kd.R_reads' HO_13.out).2.1;have qpI:=Kd.R_take (m:=((G9.length:Int):Int).toNat) HO_13.out (by omega);have qs7:qp6.length=((G9.length:Int):Int).toNat:=(by rw [qn3.out,List.length_take];omega);rw [← qn3.out] at qpI
            have qs8:G9.length=qp6.length:=by rw [qs7];omega
            have qzh:=Q0.mk qs8;clear qs7 qs8 qoz qs4 HO_13;have qqE:=Q0.mk qpI;clear qpI;replace q69:=eq_true q69
            go_wp2
            go_ret2
            exact ⟨_,by first|rfl|(simp [Qq,Qr]<;>rfl)|(simp [*,Qq,Qr]<;>rfl),qj0 (by (with_reducible repeat (first|apply Kd.R_alloc|apply Kd.R_drewN|apply Kd.R_drew));exact qqE.out) _ qzh.out,by repeat (first|(with_reducible first|exact HB.out|apply Q3|apply Q1|apply Q6|refine Q5 ?_ ZV.out|refine Q5 ?_ J1.out|refine Q5 ?_ O4.out)|exact HB.out)⟩
           rw [if_neg c67] at H
           exact absurd H (by simp)
          rw [if_neg c66] at H
          exact absurd H (by simp)
       replace c32:=Bool.eq_false_iff.mpr c32;subst c32
       have H1:(some (([]:List Int),92))=some (r1,r2):=by rw [if_neg (show ¬ (false=true) by decide)] at H;exact H
       clear H;have H:=H1;clear H1;simp only [Option.some.injEq,Prod.mk.injEq] at H;obtain ⟨rfl,rfl⟩:=H
       go_wp2
       go_ret2
       exact ⟨_,by first|rfl|(simp [Qq,Qr]<;>rfl)|(simp [*,Qq,Qr]<;>rfl),(by first|exact Kd.V_nil _ _ _ _ _|(show Kd.V _ _ _ _ _ (.slice none 0 0) [];exact Kd.V_nil _ _ _ _ _)),by repeat (first|(with_reducible first|exact HB.out|apply Q3|apply Q1|apply Q6|refine Q5 ?_ ZV.out|refine Q5 ?_ J1.out)|exact HB.out)⟩
end
section
attribute [local go_sem] Yn Yp YA YC Yb Yc Yo Yq
def Z3.l0:Nat→List Int→List Int→Int→Option (Bool)
 | 0,_,_,_=>none
 | k+1,x0,x1,x5=>if x5<(x0.length:Int) then (if 0≤x5 then (if x5<(x1.length:Int) then (if (rd x0 x5)=(rd x1 x5) then (Z3.l0 k x0 x1 (wrap64 (x5+1))) else (some false)) else (none)) else (none)) else (some true)
def Z3.f (k:Nat) (l0:List Int) (l1:List Int):Option (Bool):=if (l0.length:Int)=(l1.length:Int) then (Z3.l0 k l0 l1 0) else (some false)
set_option maxHeartbeats 8000000 in
set_option maxRecDepth 100000 in
theorem Z3.calls (k:Nat) (A0:Option Addr) (c0:Nat) (l0:List Int) (A1:Option Addr) (c1:Nat) (l1:List Int) (r:Bool) (w:World) (hr0:Kd.C (Kd.int .i64) w A0 l0.length l0) (hc0:l0.length≤c0) (hr1:Kd.C (Kd.int .i64) w A1 l1.length l1) (hc1:l1.length≤c1) (h:Z3.f k l0 l1=some r) :
  Calls Try.prog 27 #[.slice A0 l0.length c0,.slice A1 l1.length c1] w fun e w'=>e = .returned (.bool r)∧Yg w w':=by
 have HR0:=Q0.mk hr0
 have HC0:=Q0.mk hc0
 clear hr0 hc0
 have HR1:=Q0.mk hr1
 have HC1:=Q0.mk hc1
 clear hr1 hc1
 have H:(if (l0.length:Int)=(l1.length:Int) then (Z3.l0 k l0 l1 0) else (some false))=some r:=h
 clear h
 by_cases c3:(l0.length:Int)=(l1.length:Int)
 ·
  rw [if_pos c3] at H
  have c3b0:((l0.length:Int)==(l1.length:Int))=true:=beq_iff_eq.mpr c3
  have c3b1:((l0.length:Int) != (l1.length:Int))=false:=bne_eq_false_iff_eq.mpr c3
  have c3b2:(l0.length==l1.length)=true:=by first|simpa using c3|(simp at c3 ⊢;omega)
  clear c3
  have H':=Q0.mk H
  clear H
  go_enter Try.func27,Try.ntmps27
  go_wp2
  repeat (go_quiet (fail);try go_wp2)
  go_loopg [5] k (fun kq v5 w' => ∃ (Y8:Int),v5 = .int .i64 Y8∧Q0 (Z3.l0 kq l0 l1 Y8=some r)∧Q0 (kq≤k)∧Yg w w')
  case atStart=>exact ⟨(0),(by first|rfl|(simp;done)|(simp [*];done)),H',⟨Nat.le_refl _⟩,by repeat (first|exact Yg.refl _|apply Yg.step)⟩
  case round =>
   clear H'
   try clear c1
   try clear c2
   try clear p2
   try clear c3
   try clear c3b0
   try clear c3b1
   try clear c3b2
   obtain ⟨Y8,rfl,HA,HK1,⟨m1,rfl⟩⟩:=hrel
   cases gk with
   | zero=>exact absurd HA.out (by simp [Z3.l0])
   | succ k1 =>
    have H:=HA.out;clear HA;simp only [Z3.l0] at H
    by_cases c4:Y8<(l0.length:Int)
    ·
     rw [if_pos c4] at H;have c4b0:decide (Y8<(l0.length:Int))=true:=decide_eq_true c4;clear c4
     by_cases c5:0≤Y8
     ·
      rw [if_pos c5] at H;have c5b0:decide (0≤Y8)=true:=decide_eq_true c5;clear c5
      by_cases c6:Y8<(l1.length:Int)
      ·
       rw [if_pos c6] at H;have c6b0:decide (Y8<(l1.length:Int))=true:=decide_eq_true c6;clear c6
       by_cases c7:(rd l0 Y8)=(rd l1 Y8)
       ·
        rw [if_pos c7] at H;have c7b0:((rd l0 Y8)==(rd l1 Y8))=true:=beq_iff_eq.mpr c7;have c7b1:((rd l0 Y8) != (rd l1 Y8))=false:=bne_eq_false_iff_eq.mpr c7;clear c7;have H':=Q0.mk H;clear H;have qhh:0≤(Y8:Int):=of_decide_eq_true (by first|(with_reducible assumption)|assumption);have qhu:Y8<(l0.length:Int):=of_decide_eq_true (by first|(with_reducible assumption)|assumption);obtain ⟨qqY,e185,qna⟩:=Kd.at_int HR0.out Y8 qhh qhu;cases e185;replace qhh:=eq_true qhh;replace qhu:=eq_true qhu;have qhi:0≤(Y8:Int):=of_decide_eq_true (by first|(with_reducible assumption)|assumption);have qhv:Y8<(l1.length:Int):=of_decide_eq_true (by first|(with_reducible assumption)|assumption);obtain ⟨qqZ,qpo,qnb⟩:=Kd.at_int HR1.out Y8 qhi qhv;cases qpo;replace qhi:=eq_true qhi;replace qhv:=eq_true qhv
        go_wp2
        repeat (go_quiet (fail);try go_wp2)
        go_roundg k1
        case measure=>have:=HK1.out;omega
        case rel=>exact ⟨(wrap64 (Y8+1)),(by first|rfl|(simp;done)|(simp [*];done)),H',⟨by have:=HK1.out;omega⟩,by repeat (first|exact Yg.refl _|apply Yg.step)⟩
       rw [if_neg c7] at H;have c7b0:((rd l0 Y8)==(rd l1 Y8))=false:=beq_eq_false_iff_ne.mpr c7;have c7b1:((rd l0 Y8) != (rd l1 Y8))=true:=bne_iff_ne.mpr c7;obtain rfl:=Option.some.inj H;have qhh:0≤(Y8:Int):=of_decide_eq_true (by first|(with_reducible assumption)|assumption);have qhu:Y8<(l0.length:Int):=of_decide_eq_true (by first|(with_reducible assumption)|assumption);obtain ⟨qqY,e185,qna⟩:=Kd.at_int HR0.out Y8 qhh qhu;cases e185;replace qhh:=eq_true qhh;replace qhu:=eq_true qhu;have qhi:0≤(Y8:Int):=of_decide_eq_true (by first|(with_reducible assumption)|assumption);have qhv:Y8<(l1.length:Int):=of_decide_eq_true (by first|(with_reducible assumption)|assumption);obtain ⟨qqZ,qpo,qnb⟩:=Kd.at_int HR1.out Y8 qhi qhv;cases qpo;replace qhi:=eq_true qhi;replace qhv:=eq_true qhv
       go_wp2
       repeat (go_quiet (fail);try go_wp2)
       go_ret
       exact ⟨by first|rfl|(simp;done)|(simp [*];done),by repeat (first|exact Yg.refl _|apply Yg.step)⟩
      rw [if_neg c6] at H
      exact absurd H (by simp)
     rw [if_neg c5] at H
     exact absurd H (by simp)
    rw [if_neg c4] at H;have c4b0:decide (Y8<(l0.length:Int))=false:=decide_eq_false c4;clear c4;obtain rfl:=Option.some.inj H
    go_wp2
    repeat (go_quiet (fail);try go_wp2)
    go_ret
    exact ⟨by first|rfl|(simp;done)|(simp [*];done),by repeat (first|exact Yg.refl _|apply Yg.step)⟩
 rw [if_neg c3] at H
 have c3b0:((l0.length:Int)==(l1.length:Int))=false:=beq_eq_false_iff_ne.mpr c3
 have c3b1:((l0.length:Int) != (l1.length:Int))=true:=bne_iff_ne.mpr c3
 have c3b2:(l0.length==l1.length)=false:=by first|simpa using c3|(simp at c3 ⊢;omega)
 obtain rfl:=Option.some.inj H
 go_enter Try.func27,Try.ntmps27
 go_wp2
 repeat (go_quiet (fail);try go_wp2)
 go_ret
 exact ⟨by first|rfl|(simp;done)|(simp [*];done),by repeat (first|exact Yg.refl _|apply Yg.step)⟩
end
section
attribute [local go_sem] Yn Yp YA YC Yb Yc Yo Yq
mutual
def Qo.j0:Nat→Int→Bool→List (S39)→List Int→List (List (List Int))→Option (Int)
 | 0,_,_,_,_,_=>none
 | k+1,x3,x4,ZG,J0,ZJ=>Qo.l0 k x3 x4 0 ZG J0 ZJ
def Qo.l0:Nat→Int→Bool→Int→List (S39)→List Int→List (List (List Int))→Option (Int)
 | 0,_,_,_,_,_,_=>none
 | k+1,x3,x4,x5,ZG,J0,ZJ=>if x4=true then (Qo.j2 k x3 x4 x5 (decide (x5<x3)) ZG J0 ZJ) else (Qo.j2 k x3 x4 x5 false ZG J0 ZJ)
def Qo.j2:Nat→Int→Bool→Int→Bool→List (S39)→List Int→List (List (List Int))→Option (Int)
 | 0,_,_,_,_,_,_,_=>none
 | k+1,x3,x4,x5,x35,ZG,J0,ZJ=>if x35=true then (if 0≤x5 then (if x5<(ZG.length:Int) then ((Ql.f k ((Qc ZG x5).f0) ((Qc ZG x5).f1) ((Qc ZG x5).f2) ((Qc ZG x5).f3) ((Qc ZG x5).f4)).bind fun qjv=>(if qjv=true then (if x5<(J0.length:Int) then ((Qj.f (rd J0 x5) 0 100).bind fun t193=>(Qo.l0 k x3 t193 (wrap64 (x5+1)) ZG J0 ZJ)) else (none)) else (Qo.l0 k x3 false (wrap64 (x5+1)) ZG J0 ZJ))) else (none)) else (none)) else (Qo.l1 k x3 x4 ZJ (ZJ.length:Int) 0 ZG J0 ZJ)
def Qo.l1:Nat→Int→Bool→List (List (List Int))→Int→Int→List (S39)→List Int→List (List (List Int))→Option (Int)
 | 0,_,_,_,_,_,_,_,_=>none
 | k+1,x3,x4,x54,x55,x56,ZG,J0,ZJ=>if x56<x55 then (if 0≤x56 then (if x56<(x54.length:Int) then (if x4=true then (Qo.j4 k x3 (((QE x54 x56).length:Int)==x3) (QE x54 x56) x54 x55 x56 ZG J0 ZJ) else (Qo.j4 k x3 false (QE x54 x56) x54 x55 x56 ZG J0 ZJ)) else (none)) else (none)) else (if x4=true then (some 0) else (some 93))
def Qo.j4:Nat→Int→Bool→List (List Int)→List (List (List Int))→Int→Int→List (S39)→List Int→List (List (List Int))→Option (Int)
 | 0,_,_,_,_,_,_,_,_,_=>none
 | k+1,x3,x4,x7,x54,x55,x56,ZG,J0,ZJ=>Qo.l2 k x3 x4 x54 x55 x56 x7 (x7.length:Int) 0 ZG J0 ZJ
def Qo.l2:Nat→Int→Bool→List (List (List Int))→Int→Int→List (List Int)→Int→Int→List (S39)→List Int→List (List (List Int))→Option (Int)
 | 0,_,_,_,_,_,_,_,_,_,_,_=>none
 | k+1,x3,x4,x54,x55,x56,x67,x68,x69,ZG,J0,ZJ=>if x69<x68 then (if 0≤x69 then (if x69<(x67.length:Int) then (if x4=true then ((Qj.f ((QB x67 x69).length:Int) 1 10).bind fun t196=>(if t196=true then (if 0<(ZJ.length:Int) then (if 0<((QE ZJ 0).length:Int) then (Qo.j6 k x3 (((QB x67 x69).length:Int)==((QB (QE ZJ 0) 0).length:Int)) (QB x67 x69) x54 x55 x56 x67 x68 x69 ZG J0 ZJ) else (none)) else (none)) else (Qo.j6 k x3 false (QB x67 x69) x54 x55 x56 x67 x68 x69 ZG J0 ZJ))) else (Qo.j6 k x3 false (QB x67 x69) x54 x55 x56 x67 x68 x69 ZG J0 ZJ)) else (none)) else (none)) else (Qo.l1 k x3 x4 x54 x55 (wrap64 (x56+1)) ZG J0 ZJ)
def Qo.j6:Nat→Int→Bool→List Int→List (List (List Int))→Int→Int→List (List Int)→Int→Int→List (S39)→List Int→List (List (List Int))→Option (Int)
 | 0,_,_,_,_,_,_,_,_,_,_,_,_=>none
 | k+1,x3,x4,x9,x54,x55,x56,x67,x68,x69,ZG,J0,ZJ=>Qo.l3 k x3 x4 x54 x55 x56 x67 x68 x69 x9 (x9.length:Int) 0 ZG J0 ZJ
def Qo.l3:Nat→Int→Bool→List (List (List Int))→Int→Int→List (List Int)→Int→Int→List Int→Int→Int→List (S39)→List Int→List (List (List Int))→Option (Int)
 | 0,_,_,_,_,_,_,_,_,_,_,_,_,_,_=>none
 | k+1,x3,x4,x54,x55,x56,x67,x68,x69,x91,x92,x93,ZG,J0,ZJ=>if x93<x92 then (if 0≤x93 then (if x93<(x91.length:Int) then (if x4=true then ((Qj.f (rd x91 x93) 0 100000).bind fun qhG=>(Qo.l3 k x3 qhG x54 x55 x56 x67 x68 x69 x91 x92 (wrap64 (x93+1)) ZG J0 ZJ)) else (Qo.l3 k x3 false x54 x55 x56 x67 x68 x69 x91 x92 (wrap64 (x93+1)) ZG J0 ZJ)) else (none)) else (none)) else (Qo.l2 k x3 x4 x54 x55 x56 x67 x68 (wrap64 (x69+1)) ZG J0 ZJ)
end
def Qo.f (k:Nat) (Qb:List (S39)) (Qh:List Int) (Qd:List (List (List Int))):Option (Int):=(Qj.f (Qb.length:Int) 1 3).bind fun qju=>(if qju=true then (if (Qh.length:Int)=(Qb.length:Int) then ((Qj.f (Qd.length:Int) 1 6).bind fun qcM=>(Qo.j0 k (Qb.length:Int) qcM Qb Qh Qd)) else (Qo.j0 k (Qb.length:Int) false Qb Qh Qd)) else (Qo.j0 k (Qb.length:Int) false Qb Qh Qd))
set_option maxHeartbeats 8000000 in
set_option maxRecDepth 100000 in
theorem Qo.calls (k:Nat) (Y3:Option Addr) (QG:Nat) (Qb:List (S39)) (Y1:Option Addr) (QI:Nat) (Qh:List Int) (Y5:Option Addr) (QJ:Nat) (Qd:List (List (List Int))) (r:Int) (w:World) (Gr:Kd.C k39 w Y3 Qb.length Qb) (GI:Qb.length≤QG) (Gs:Kd.C (Kd.int .i64) w Y1 Qh.length Qh) (GJ:Qh.length≤QI) (Gt:Kd.C (Kd.slice 37 (Kd.slice 3 (Kd.int .i64))) w Y5 Qd.length Qd) (GK:Qd.length≤QJ) (h:Qo.f k Qb Qh Qd=some r) :
  Calls Try.prog 30 #[.agg #[.slice Y3 Qb.length QG,.slice Y1 Qh.length QI,.slice Y5 Qd.length QJ]] w fun e w'=>e = .returned (.int .i64 r)∧Below w.heap.size w w':=by
 have qpJ:=Try.underlying47
 have qm5:=Try.underlying39
 have qkQ:=Try.underlying111
 have Jt:=Q0.mk Gr
 have JO:=Q0.mk GI
 clear Gr GI
 have JD:=Q0.mk Gs
 have JP:=Q0.mk GJ
 clear Gs GJ
 have JE:=Q0.mk Gt
 have JQ:=Q0.mk GK
 clear Gt GK
 have HB:=Q0.mk (Below.refl w.heap.size w)
 have H:((Qj.f (Qb.length:Int) 1 3).bind fun qju=>(if qju=true then (if (Qh.length:Int)=(Qb.length:Int) then ((Qj.f (Qd.length:Int) 1 6).bind fun qcM=>(Qo.j0 k (Qb.length:Int) qcM Qb Qh Qd)) else (Qo.j0 k (Qb.length:Int) false Qb Qh Qd)) else (Qo.j0 k (Qb.length:Int) false Qb Qh Qd)))=some r:=h
 clear h
 have HC2:=Q0.mk H
 clear H
 go_enter Try.func30,Try.ntmps30
 go_upto_region 2 with (first|((with_reducible refine QW (N:=1) rfl ?_);(try (refine Gq (by rfl) ?_;dsimp only));refine Yw ?hg (N:=1) ?hd (cs:=#[.slice Y3 Qb.length QG,.slice Y1 Qh.length QI,.slice Y5 Qd.length QJ]) (t:=47) ?hr ?_;(case hd=>rfl);(case hg=>rfl);(case hr=>first|(go_simp;done)|(go_simp;rfl));intro Jl hg w3 hbox hb;have n0_:=Q0.mk (Qm (by repeat (first|(with_reducible first|exact HB.out|apply Q3|apply Q1|apply Q6)|exact HB.out)) hb);have n1_:=Q0.mk (hbox);have n2_:=Q0.mk ((by rw [hg];exact (Qf (by repeat (first|(with_reducible first|exact HB.out|apply Q3|apply Q1|apply Q6)|exact HB.out))):w.heap.size≤Jl));have n3_:=n2_;clear HB;have HB:=n0_;have YR:=n1_;have qAI:=n2_;have Ge:=n3_;clear n0_ n1_ n2_ n3_ hb hbox hg;have GL:w3.cell? ⟨Jl,0,none⟩=some (.slice Y3 Qb.length QG):=(Q8 YR.out 0).trans rfl;have GM:w3.cell? ⟨Jl,1,none⟩=some (.slice Y1 Qh.length QI):=(Q8 YR.out 1).trans rfl;have Ki:w3.cell? ⟨Jl,2,none⟩=some (.slice Y5 Qd.length QJ):=(Q8 YR.out 2).trans rfl;have GN:=Q9 YR.out 0;have GQ:=Q9 YR.out 1;have Km:=Q9 YR.out 2))
 (try simp only [Act.put,List.setIfInBounds_toArray,List.set_cons_zero,List.set_cons_succ])
 go_cut [4] (fun v4 wc => ∃ (kq:Nat) (qaH:Bool),v4 = .bool qaH∧Q0 (Qo.j0 kq (Qb.length:Int) qaH Qb Qh Qd=some r)∧Q0 (kq≤k)∧Q0 (wc.heap[Jl]? = some (.cells #[(.slice Y3 Qb.length QG),(.slice Y1 Qh.length QI),(.slice Y5 Qd.length QJ)] 47 (0,0)))∧Q0 (Below w.heap.size w wc))
 case first =>
  have H:=HC2.out
  clear HC2
  replace H:=Option.bind_eq_some_iff.mp H
  obtain ⟨qju,A50,H⟩:=H
  replace H:(if qju=true then (if (Qh.length:Int)=(Qb.length:Int) then ((Qj.f (Qd.length:Int) 1 6).bind fun qcM=>(Qo.j0 k (Qb.length:Int) qcM Qb Qh Qd)) else (Qo.j0 k (Qb.length:Int) false Qb Qh Qd)) else (Qo.j0 k (Qb.length:Int) false Qb Qh Qd))=some r:=H
  have A5:=Q0.mk A50
  clear A50
  by_cases c6:qju=true
  ·
   subst c6
   have H1:(if (Qh.length:Int)=(Qb.length:Int) then ((Qj.f (Qd.length:Int) 1 6).bind fun qcM=>(Qo.j0 k (Qb.length:Int) qcM Qb Qh Qd)) else (Qo.j0 k (Qb.length:Int) false Qb Qh Qd))=some r:=by rw [if_pos rfl] at H;exact H
   clear H
   have H:=H1
   clear H1
   by_cases c7:(Qh.length:Int)=(Qb.length:Int)
   ·
    rw [if_pos c7] at H;have c7b0:((Qh.length:Int)==(Qb.length:Int))=true:=beq_iff_eq.mpr c7;have c7b1:((Qh.length:Int) != (Qb.length:Int))=false:=bne_eq_false_iff_eq.mpr c7
    have c7b2:(Qh.length==Qb.length)=true:=by first|simpa using c7|(simp at c7 ⊢;omega)
    clear c7
    (first|rw [c7b0]|(simp only [Yj,Yu];rw [c7b0])|skip)
    replace H:=Option.bind_eq_some_iff.mp H;obtain ⟨qcM,A80,H⟩:=H;replace H:(Qo.j0 k (Qb.length:Int) qcM Qb Qh Qd)=some r:=H;have A8:=Q0.mk A80;clear A80;have H':=Q0.mk H;clear H
    go_wp2_with (first|((with_reducible refine Qx (f:=65) rfl ?_);refine YL (some 16) rfl rfl Try.func65 (by kernel_rfl) rfl #[.int .i64 (Qb.length:Int),.int .i64 1,.int .i64 3] rfl (by (try simp only [List.map_toArray,List.map_cons,List.map_nil]);first|done|rfl|(simp only [List.length_drop,List.length_take];rfl)) ?_;(with_reducible refine (Qj.calls (Qb.length:Int) 1 3 true _ A5.out).mono ?_);rintro e w' ⟨rfl,⟨nd,rfl⟩⟩;refine ⟨_,rfl,?_⟩;have Kj:w3.cell? ⟨Jl,0,none⟩=some (.slice Y3 Qb.length QG):=(Q8 YR.out 0).trans rfl;have Kk:w3.cell? ⟨Jl,1,none⟩=some (.slice Y1 Qh.length QI):=(Q8 YR.out 1).trans rfl;have Kl:w3.cell? ⟨Jl,2,none⟩=some (.slice Y5 Qd.length QJ):=(Q8 YR.out 2).trans rfl;have Kn:=Q9 YR.out 0;have Ko:=Q9 YR.out 1;have Kp:=Q9 YR.out 2)|(go_at_call 65;(with_reducible refine (Qj.calls (Qd.length:Int) 1 6 qcM _ A8.out).mono ?_);rintro e w' ⟨rfl,⟨nd,rfl⟩⟩))
    go_meet
    case rel=>exact ⟨_,(qcM),(by first|rfl|(simp;done)|(simp [*];done)),H',⟨by first|omega|exact Nat.le_refl _⟩,⟨by (with_reducible repeat (first|refine Q4 ?_ _|refine Q7 ?_|refine Q2 ?_ _));exact YR.out⟩,⟨by repeat (first|(with_reducible first|exact HB.out|apply Q3|apply Q1|apply Q6|refine Q5 ?_ Ge.out)|exact HB.out)⟩⟩
   rw [if_neg c7] at H
   have c7b0:((Qh.length:Int)==(Qb.length:Int))=false:=beq_eq_false_iff_ne.mpr c7
   have c7b1:((Qh.length:Int) != (Qb.length:Int))=true:=bne_iff_ne.mpr c7
   have c7b2:(Qh.length==Qb.length)=false:=by first|simpa using c7|(simp at c7 ⊢;omega)
   (first|rw [c7b0]|(simp only [Yj,Yu];rw [c7b0])|skip)
   have H':=Q0.mk H
   clear H
   go_wp2_with (first|((with_reducible refine Qx (f:=65) rfl ?_);refine YL (some 16) rfl rfl Try.func65 (by kernel_rfl) rfl #[.int .i64 (Qb.length:Int),.int .i64 1,.int .i64 3] rfl (by (try simp only [List.map_toArray,List.map_cons,List.map_nil]);first|done|rfl|(simp only [List.length_drop,List.length_take];rfl)) ?_;(with_reducible refine (Qj.calls (Qb.length:Int) 1 3 true _ A5.out).mono ?_);rintro e w' ⟨rfl,⟨nd,rfl⟩⟩;refine ⟨_,rfl,?_⟩;have GE:w3.cell? ⟨Jl,0,none⟩=some (.slice Y3 Qb.length QG):=(Q8 YR.out 0).trans rfl;have GF:w3.cell? ⟨Jl,1,none⟩=some (.slice Y1 Qh.length QI):=(Q8 YR.out 1).trans rfl;have GX:w3.cell? ⟨Jl,2,none⟩=some (.slice Y5 Qd.length QJ):=(Q8 YR.out 2).trans rfl;have GG:=Q9 YR.out 0;have GH:=Q9 YR.out 1;have GY:=Q9 YR.out 2))
   go_meet
   case rel=>exact ⟨_,(false),(by first|rfl|(simp;done)|(simp [*];done)),H',⟨by first|omega|exact Nat.le_refl _⟩,⟨by (with_reducible repeat (first|refine Q4 ?_ _|refine Q7 ?_|refine Q2 ?_ _));exact YR.out⟩,⟨by repeat (first|(with_reducible first|exact HB.out|apply Q3|apply Q1|apply Q6|refine Q5 ?_ Ge.out)|exact HB.out)⟩⟩
  replace c6:=Bool.eq_false_iff.mpr c6
  subst c6
  have H1:(Qo.j0 k (Qb.length:Int) false Qb Qh Qd)=some r:=by rw [if_neg (show ¬ (false=true) by decide)] at H;exact H
  clear H
  have H:=H1
  clear H1
  have H':=Q0.mk H
  clear H
  go_wp2_with (first|((with_reducible refine Qx (f:=65) rfl ?_);refine YL (some 16) rfl rfl Try.func65 (by kernel_rfl) rfl #[.int .i64 (Qb.length:Int),.int .i64 1,.int .i64 3] rfl (by (try simp only [List.map_toArray,List.map_cons,List.map_nil]);first|done|rfl|(simp only [List.length_drop,List.length_take];rfl)) ?_;(with_reducible refine (Qj.calls (Qb.length:Int) 1 3 false _ A5.out).mono ?_);rintro e w' ⟨rfl,⟨nd,rfl⟩⟩;refine ⟨_,rfl,?_⟩))
  go_meet
  case rel=>exact ⟨_,(false),(by first|rfl|(simp;done)|(simp [*];done)),H',⟨by first|omega|exact Nat.le_refl _⟩,⟨by (with_reducible repeat (first|refine Q4 ?_ _|refine Q7 ?_|refine Q2 ?_ _));exact YR.out⟩,⟨by repeat (first|(with_reducible first|exact HB.out|apply Q3|apply Q1|apply Q6|refine Q5 ?_ Ge.out)|exact HB.out)⟩⟩
 case rest =>
  clear HC2
  try clear p2
  try clear c3
  try clear c6
  try clear c7
  try clear c7b0
  try clear c7b1
  try clear c7b2
  try clear GE
  try clear GF
  try clear GX
  try clear GL
  try clear GM
  try clear Ki
  try clear Kj
  try clear Kk
  try clear Kl
  try clear GG
  try clear GH
  try clear GY
  try clear GN
  try clear GQ
  try clear Km
  try clear Kn
  try clear Ko
  try clear Kp
  obtain ⟨kq,qaH,rfl,HA,HJ1,YR,HB⟩:=hcut
  cases kq with
  | zero=>exact absurd HA.out (by simp [Qo.j0])
  | succ kj1 =>
   have H:=HA.out
   clear HA
   simp only [Qo.j0] at H
   have H':=Q0.mk H
   clear H
   go_wp2
   go_loopg [4,5] kj1 (fun kq v4 v5 w' => ∃ (OM:Bool) (Yl:Int),v4 = .bool OM∧v5 = .int .i64 Yl∧Q0 (Qo.l0 kq (Qb.length:Int) OM Yl Qb Qh Qd=some r)∧Q0 (kq≤kj1)∧Q0 (w'.heap[Jl]? = some (.cells #[(.slice Y3 Qb.length QG),(.slice Y1 Qh.length QI),(.slice Y5 Qd.length QJ)] 47 (0,0)))∧Q0 (Below w.heap.size w w'))
   case atStart=>exact ⟨(qaH),(0),(by first|rfl|(simp;done)|(simp [*];done)),(by first|rfl|(simp;done)|(simp [*];done)),H',⟨Nat.le_refl _⟩,⟨by (with_reducible repeat (first|refine Q4 ?_ _|refine Q7 ?_|refine Q2 ?_ _));exact YR.out⟩,⟨by repeat (first|(with_reducible first|exact HB.out|apply Q3|apply Q1|apply Q6|refine Q5 ?_ Ge.out)|exact HB.out)⟩⟩
   case round =>
    clear H';(try clear p2);(try clear c3);(try clear c6);(try clear c7);(try clear c7b0);(try clear c7b1);(try clear c7b2);(try clear GE);(try clear GF);(try clear GX);(try clear GL);(try clear GM);(try clear Ki);(try clear Kj);(try clear Kk);(try clear Kl);(try clear GG);(try clear GH);(try clear GY);(try clear GN);(try clear GQ);(try clear Km);(try clear Kn);(try clear Ko);(try clear Kp);(try clear p2);obtain ⟨OM,Yl,rfl,rfl,HA,HK2,YR,HB⟩:=hrel
    cases gk with
    | zero=>exact absurd HA.out (by simp [Qo.l0])
    | succ k2 =>
     have H:=HA.out;clear HA;simp only [Qo.l0] at H;have qoV:=Q0.mk H;clear H
     go_upto_region 4 with (fail)
     go_cut [35] (fun v35 wc => ∃ (kq:Nat) (qeT:Bool),v35 = .bool qeT∧Q0 (Qo.j2 kq (Qb.length:Int) OM Yl qeT Qb Qh Qd=some r)∧Q0 (kq≤k2)∧Q0 (wc.heap[Jl]? = some (.cells #[(.slice Y3 Qb.length QG),(.slice Y1 Qh.length QI),(.slice Y5 Qd.length QJ)] 47 (0,0)))∧Q0 (Below w.heap.size w wc))
     case first =>
      have H:=qoV.out;clear qoV
      by_cases c12:OM=true
      ·
       subst c12
       have H1:(Qo.j2 k2 (Qb.length:Int) true Yl (decide (Yl<(Qb.length:Int))) Qb Qh Qd)=some r:=by rw [if_pos rfl] at H;exact H
       clear H;have H:=H1;clear H1;have H':=Q0.mk H;clear H
       go_wp2
       go_meet
       case rel=>exact ⟨_,(decide (Yl<(Qb.length:Int))),(by first|rfl|(simp;done)|(simp [*];done)),H',⟨by have:=HJ1.out;have:=HK2.out;first|omega|exact Nat.le_refl _⟩,⟨by (with_reducible repeat (first|refine Q4 ?_ _|refine Q7 ?_|refine Q2 ?_ _));exact YR.out⟩,⟨by repeat (first|(with_reducible first|exact HB.out|apply Q3|apply Q1|apply Q6|refine Q5 ?_ Ge.out)|exact HB.out)⟩⟩
      replace c12:=Bool.eq_false_iff.mpr c12;subst c12
      have H1:(Qo.j2 k2 (Qb.length:Int) false Yl false Qb Qh Qd)=some r:=by rw [if_neg (show ¬ (false=true) by decide)] at H;exact H
      clear H;have H:=H1;clear H1;have H':=Q0.mk H;clear H
      go_wp2
      go_meet
      case rel=>exact ⟨_,(false),(by first|rfl|(simp;done)|(simp [*];done)),H',⟨by have:=HJ1.out;have:=HK2.out;first|omega|exact Nat.le_refl _⟩,⟨by (with_reducible repeat (first|refine Q4 ?_ _|refine Q7 ?_|refine Q2 ?_ _));exact YR.out⟩,⟨by repeat (first|(with_reducible first|exact HB.out|apply Q3|apply Q1|apply Q6|refine Q5 ?_ Ge.out)|exact HB.out)⟩⟩
     case rest =>
      clear qoV;(try clear c1);(try clear p2);(try clear c3);(try clear c6);(try clear c7);(try clear c7b0);(try clear c7b1);(try clear c7b2);(try clear c12);(try clear GE);(try clear GF);(try clear GX);(try clear GL);(try clear GM);(try clear Ki);(try clear Kj);(try clear Kk);(try clear Kl);(try clear GG);(try clear GH);(try clear GY);(try clear GN);(try clear GQ);(try clear Km);(try clear Kn);(try clear Ko);(try clear Kp);(try clear p2);obtain ⟨kq,qeT,rfl,HA,Wk,YR,HB⟩:=hcut
      cases kq with
      | zero=>exact absurd HA.out (by simp [Qo.j2])
      | succ Xo =>
       have H:=HA.out;clear HA;simp only [Qo.j2] at H
       by_cases c13:qeT=true
       ·
        subst c13
        have H1:(if 0≤Yl then (if Yl<(Qb.length:Int) then ((Ql.f Xo ((Qc Qb Yl).f0) ((Qc Qb Yl).f1) ((Qc Qb Yl).f2) ((Qc Qb Yl).f3) ((Qc Qb Yl).f4)).bind fun qjv=>(if qjv=true then (if Yl<(Qh.length:Int) then ((Qj.f (rd Qh Yl) 0 100).bind fun t193=>(Qo.l0 Xo (Qb.length:Int) t193 (wrap64 (Yl+1)) Qb Qh Qd)) else (none)) else (Qo.l0 Xo (Qb.length:Int) false (wrap64 (Yl+1)) Qb Qh Qd))) else (none)) else (none))=some r:=by rw [if_pos rfl] at H;exact H
        clear H;have H:=H1;clear H1
        by_cases c14:0≤Yl
        ·
         rw [if_pos c14] at H;have c14b0:decide (0≤Yl)=true:=decide_eq_true c14;clear c14
         by_cases c15:Yl<(Qb.length:Int)
         ·
          rw [if_pos c15] at H;have c15b0:decide (Yl<(Qb.length:Int))=true:=decide_eq_true c15;clear c15;replace H:=Option.bind_eq_some_iff.mp H;obtain ⟨qjv,qp9,H⟩:=H;replace H:(if qjv=true then (if Yl<(Qh.length:Int) then ((Qj.f (rd Qh Yl) 0 100).bind fun t193=>(Qo.l0 Xo (Qb.length:Int) t193 (wrap64 (Yl+1)) Qb Qh Qd)) else (none)) else (Qo.l0 Xo (Qb.length:Int) false (wrap64 (Yl+1)) Qb Qh Qd))=some r:=H;have A16:=Q0.mk qp9;clear qp9
          by_cases c17:qjv=true
          ·
           subst c17
           have H1:(if Yl<(Qh.length:Int) then ((Qj.f (rd Qh Yl) 0 100).bind fun t193=>(Qo.l0 Xo (Qb.length:Int) t193 (wrap64 (Yl+1)) Qb Qh Qd)) else (none))=some r:=by rw [if_pos rfl] at H;exact H
           clear H;have H:=H1;clear H1
           by_cases c18:Yl<(Qh.length:Int)
           ·
            rw [if_pos c18] at H;have c18b0:decide (Yl<(Qh.length:Int))=true:=decide_eq_true c18;clear c18;replace H:=Option.bind_eq_some_iff.mp H;obtain ⟨t193,qqb,H⟩:=H;replace H:(Qo.l0 Xo (Qb.length:Int) t193 (wrap64 (Yl+1)) Qb Qh Qd)=some r:=H;have A19:=Q0.mk qqb;clear qqb;have H':=Q0.mk H;clear H;have XO:wc.cell? ⟨Jl,0,none⟩=some (.slice Y3 Qb.length QG):=(Q8 YR.out 0).trans rfl;have XP:wc.cell? ⟨Jl,1,none⟩=some (.slice Y1 Qh.length QI):=(Q8 YR.out 1).trans rfl;have XQ:wc.cell? ⟨Jl,2,none⟩=some (.slice Y5 Qd.length QJ):=(Q8 YR.out 2).trans rfl;have XZ:=Q9 YR.out 0;have qaa:=Q9 YR.out 1;have qab:=Q9 YR.out 2;have qbh:0≤(Yl:Int):=of_decide_eq_true (by first|(with_reducible assumption)|assumption);have qbi:Yl<(Qb.length:Int):=of_decide_eq_true (by first|(with_reducible assumption)|assumption);obtain ⟨qh9,qgy,qgM,qgz,qgN,qgA,qgO,e190,GZ,K0,K1,K2,Ka,qan,qaj,qao,qak,qap,qal⟩:=qgJ Jt.out Yl qbh qbi;cases e190;replace GZ:=(HB.out.cell (World.block_lt_of_cell? w _ GZ)).trans GZ;replace K0:=(HB.out.cell (World.block_lt_of_cell? w _ K0)).trans K0;replace K1:=(HB.out.cell (World.block_lt_of_cell? w _ K1)).trans K1;replace K2:=(HB.out.cell (World.block_lt_of_cell? w _ K2)).trans K2;replace Ka:=(HB.out.cell (World.block_lt_of_cell? w _ Ka)).trans Ka;have qdH:=Q0.mk qaj;have qdD:=Q0.mk qan;clear qaj qan;have qdI:=Q0.mk qak;have qdE:=Q0.mk qao;clear qak qao;have qdJ:=Q0.mk qal;have qdF:=Q0.mk qap;clear qal qap;replace qbh:=eq_true qbh;replace qbi:=eq_true qbi
            go_wp2_with (first|((with_reducible refine Qx (f:=76) rfl ?_);refine YL (some 44) rfl rfl Try.func76 (by kernel_rfl) rfl #[.agg #[.slice qgy ((Qc Qb Yl).f0).length qgM,.slice qgz ((Qc Qb Yl).f1).length qgN,.slice qgA ((Qc Qb Yl).f2).length qgO,.int .i64 ((Qc Qb Yl).f3),.int .i64 ((Qc Qb Yl).f4)]] rfl (by (try simp only [List.map_toArray,List.map_cons,List.map_nil]);first|done|rfl|(simp only [List.length_drop,List.length_take];rfl)) ?_;(with_reducible refine (Ql.calls Xo _ _ ((Qc Qb Yl).f0) _ _ ((Qc Qb Yl).f1) _ _ ((Qc Qb Yl).f2) ((Qc Qb Yl).f3) ((Qc Qb Yl).f4) true _ ?side1 ?side2 ?side3 ?side4 ?side5 ?side6 A16.out).mono ?_);(case side1=>repeat (first|exact (Kd.C_below qdH.out HB.out)|(with_reducible refine Kd.C_alloc ?_ _)|(with_reducible refine Kd.C_drewN ?_ _)|(with_reducible refine Kd.C_drew ?_)));(case side2=>exact qdD.out);(case side3=>repeat (first|exact (Kd.C_below qdI.out HB.out)|(with_reducible refine Kd.C_alloc ?_ _)|(with_reducible refine Kd.C_drewN ?_ _)|(with_reducible refine Kd.C_drew ?_)));(case side4=>exact qdE.out);(case side5=>repeat (first|exact (Kd.C_below qdJ.out HB.out)|(with_reducible refine Kd.C_alloc ?_ _)|(with_reducible refine Kd.C_drewN ?_ _)|(with_reducible refine Kd.C_drew ?_)));(case side6=>exact qdF.out);rintro e w21 ⟨rfl,hb⟩;refine ⟨_,rfl,?_⟩;have n0_:=Q0.mk (Qe (g:=Jl) (by (with_reducible repeat (first|refine Q4 ?_ _|refine Q7 ?_|refine Q2 ?_ _));exact YR.out) hb);have n1_:=Q0.mk (Qm (by repeat (first|(with_reducible first|exact HB.out|apply Q3|apply Q1|apply Q6|refine Q5 ?_ Ge.out)|exact HB.out)) hb);clear YR HB;have YR:=n0_;have HB:=n1_;clear n0_ n1_;(try clear hb);(try clear hb2);(try clear hk);(try clear hi);have WP:w21.cell? ⟨Jl,0,none⟩=some (.slice (some qh9) Qb.length QG):=(Q8 YR.out 0).trans rfl;have WQ:w21.cell? ⟨Jl,1,none⟩=some (.slice Y1 Qh.length QI):=(Q8 YR.out 1).trans rfl;have WR:w21.cell? ⟨Jl,2,none⟩=some (.slice Y5 Qd.length QJ):=(Q8 YR.out 2).trans rfl;have WS:=Q9 YR.out 0;have WT:=Q9 YR.out 1;have WU:=Q9 YR.out 2;have qf1:0≤(Yl:Int):=of_decide_eq_true (by first|(with_reducible assumption)|assumption);have qf3:Yl<(Qh.length:Int):=of_decide_eq_true (by first|(with_reducible assumption)|assumption);obtain ⟨qAU,qzu,Uk⟩:=Kd.at_int JD.out Yl qf1 qf3;cases qzu;replace Uk:=(HB.out.cell (World.block_lt_of_cell? w _ Uk)).trans Uk;replace qf1:=eq_true qf1;replace qf3:=eq_true qf3)|(go_at_call 65;(with_reducible refine (Qj.calls (rd Qh Yl) 0 100 t193 _ A19.out).mono ?_);rintro e w' ⟨rfl,⟨nd,rfl⟩⟩))
            go_roundg Xo
            case measure=>have:=HJ1.out;have:=HK2.out;have:=Wk.out;omega
            case rel=>exact ⟨(t193),(wrap64 (Yl+1)),(by first|rfl|(simp;done)|(simp [*];done)),(by first|rfl|(simp;done)|(simp [*];done)),H',⟨by have:=HJ1.out;have:=HK2.out;have:=Wk.out;omega⟩,⟨by (with_reducible repeat (first|refine Q4 ?_ _|refine Q7 ?_|refine Q2 ?_ _));exact YR.out⟩,⟨by repeat (first|(with_reducible first|exact HB.out|apply Q3|apply Q1|apply Q6|refine Q5 ?_ Ge.out)|exact HB.out)⟩⟩
           rw [if_neg c18] at H
           exact absurd H (by simp)
          replace c17:=Bool.eq_false_iff.mpr c17;subst c17
          have H1:(Qo.l0 Xo (Qb.length:Int) false (wrap64 (Yl+1)) Qb Qh Qd)=some r:=by rw [if_neg (show ¬ (false=true) by decide)] at H;exact H
          clear H;have H:=H1;clear H1;have H':=Q0.mk H;clear H;have XR:wc.cell? ⟨Jl,0,none⟩=some (.slice Y3 Qb.length QG):=(Q8 YR.out 0).trans rfl;have XS:wc.cell? ⟨Jl,1,none⟩=some (.slice Y1 Qh.length QI):=(Q8 YR.out 1).trans rfl;have XT:wc.cell? ⟨Jl,2,none⟩=some (.slice Y5 Qd.length QJ):=(Q8 YR.out 2).trans rfl;have qac:=Q9 YR.out 0;have qad:=Q9 YR.out 1;have qae:=Q9 YR.out 2;have qbh:0≤(Yl:Int):=of_decide_eq_true (by first|(with_reducible assumption)|assumption);have qbi:Yl<(Qb.length:Int):=of_decide_eq_true (by first|(with_reducible assumption)|assumption);obtain ⟨qh9,qgy,qgM,qgz,qgN,qgA,qgO,e190,GZ,K0,K1,K2,Ka,qan,qaj,qao,qak,qap,qal⟩:=qgJ Jt.out Yl qbh qbi;cases e190;replace GZ:=(HB.out.cell (World.block_lt_of_cell? w _ GZ)).trans GZ;replace K0:=(HB.out.cell (World.block_lt_of_cell? w _ K0)).trans K0;replace K1:=(HB.out.cell (World.block_lt_of_cell? w _ K1)).trans K1;replace K2:=(HB.out.cell (World.block_lt_of_cell? w _ K2)).trans K2;replace Ka:=(HB.out.cell (World.block_lt_of_cell? w _ Ka)).trans Ka;have qdH:=Q0.mk qaj;have qdD:=Q0.mk qan;clear qaj qan;have qdI:=Q0.mk qak;have qdE:=Q0.mk qao;clear qak qao;have qdJ:=Q0.mk qal;have qdF:=Q0.mk qap;clear qal qap;replace qbh:=eq_true qbh;replace qbi:=eq_true qbi
          go_wp2_with (first|((with_reducible refine Qx (f:=76) rfl ?_);refine YL (some 44) rfl rfl Try.func76 (by kernel_rfl) rfl #[.agg #[.slice qgy ((Qc Qb Yl).f0).length qgM,.slice qgz ((Qc Qb Yl).f1).length qgN,.slice qgA ((Qc Qb Yl).f2).length qgO,.int .i64 ((Qc Qb Yl).f3),.int .i64 ((Qc Qb Yl).f4)]] rfl (by (try simp only [List.map_toArray,List.map_cons,List.map_nil]);first|done|rfl|(simp only [List.length_drop,List.length_take];rfl)) ?_;(with_reducible refine (Ql.calls Xo _ _ ((Qc Qb Yl).f0) _ _ ((Qc Qb Yl).f1) _ _ ((Qc Qb Yl).f2) ((Qc Qb Yl).f3) ((Qc Qb Yl).f4) false _ ?side1 ?side2 ?side3 ?side4 ?side5 ?side6 A16.out).mono ?_);(case side1=>repeat (first|exact (Kd.C_below qdH.out HB.out)|(with_reducible refine Kd.C_alloc ?_ _)|(with_reducible refine Kd.C_drewN ?_ _)|(with_reducible refine Kd.C_drew ?_)));(case side2=>exact qdD.out);(case side3=>repeat (first|exact (Kd.C_below qdI.out HB.out)|(with_reducible refine Kd.C_alloc ?_ _)|(with_reducible refine Kd.C_drewN ?_ _)|(with_reducible refine Kd.C_drew ?_)));(case side4=>exact qdE.out);(case side5=>repeat (first|exact (Kd.C_below qdJ.out HB.out)|(with_reducible refine Kd.C_alloc ?_ _)|(with_reducible refine Kd.C_drewN ?_ _)|(with_reducible refine Kd.C_drew ?_)));(case side6=>exact qdF.out);rintro e w24 ⟨rfl,hb⟩;refine ⟨_,rfl,?_⟩;have n0_:=Q0.mk (Qe (g:=Jl) (by (with_reducible repeat (first|refine Q4 ?_ _|refine Q7 ?_|refine Q2 ?_ _));exact YR.out) hb);have n1_:=Q0.mk (Qm (by repeat (first|(with_reducible first|exact HB.out|apply Q3|apply Q1|apply Q6|refine Q5 ?_ Ge.out)|exact HB.out)) hb);clear YR HB;have YR:=n0_;have HB:=n1_;clear n0_ n1_;(try clear hb);(try clear hb2);(try clear hk);(try clear hi)))
          go_roundg Xo
          case measure=>have:=HJ1.out;have:=HK2.out;have:=Wk.out;omega
          case rel=>exact ⟨(false),(wrap64 (Yl+1)),(by first|rfl|(simp;done)|(simp [*];done)),(by first|rfl|(simp;done)|(simp [*];done)),H',⟨by have:=HJ1.out;have:=HK2.out;have:=Wk.out;omega⟩,⟨by (with_reducible repeat (first|refine Q4 ?_ _|refine Q7 ?_|refine Q2 ?_ _));exact YR.out⟩,⟨by repeat (first|(with_reducible first|exact HB.out|apply Q3|apply Q1|apply Q6|refine Q5 ?_ Ge.out)|exact HB.out)⟩⟩
         rw [if_neg c15] at H
         exact absurd H (by simp)
        rw [if_neg c14] at H
        exact absurd H (by simp)
       replace c13:=Bool.eq_false_iff.mpr c13;subst c13
       have H1:(Qo.l1 Xo (Qb.length:Int) OM Qd (Qd.length:Int) 0 Qb Qh Qd)=some r:=by rw [if_neg (show ¬ (false=true) by decide)] at H;exact H
       clear H;have H:=H1;clear H1;have H':=Q0.mk H;clear H;have XU:wc.cell? ⟨Jl,0,none⟩=some (.slice Y3 Qb.length QG):=(Q8 YR.out 0).trans rfl;have XV:wc.cell? ⟨Jl,1,none⟩=some (.slice Y1 Qh.length QI):=(Q8 YR.out 1).trans rfl;have XW:wc.cell? ⟨Jl,2,none⟩=some (.slice Y5 Qd.length QJ):=(Q8 YR.out 2).trans rfl;have qaf:=Q9 YR.out 0;have qag:=Q9 YR.out 1;have qah:=Q9 YR.out 2
       go_wp2
       go_loopg [4,56] Xo (fun kq v4 v56 w' => ∃ (qlo:Bool) (Yt:Int),v4 = .bool qlo∧v56 = .int .i64 Yt∧Q0 (Qo.l1 kq (Qb.length:Int) qlo Qd (Qd.length:Int) Yt Qb Qh Qd=some r)∧Q0 (kq≤Xo)∧Q0 (w'.heap[Jl]? = some (.cells #[(.slice Y3 Qb.length QG),(.slice Y1 Qh.length QI),(.slice Y5 Qd.length QJ)] 47 (0,0)))∧Q0 (Below w.heap.size w w'))
       case atStart=>exact ⟨(OM),(0),(by first|rfl|(simp;done)|(simp [*];done)),(by first|rfl|(simp;done)|(simp [*];done)),H',⟨Nat.le_refl _⟩,⟨by (with_reducible repeat (first|refine Q4 ?_ _|refine Q7 ?_|refine Q2 ?_ _));exact YR.out⟩,⟨by repeat (first|(with_reducible first|exact HB.out|apply Q3|apply Q1|apply Q6|refine Q5 ?_ Ge.out)|exact HB.out)⟩⟩
       case round =>
        clear H';(try clear c1);(try clear p1);(try clear q1);(try clear hx1);(try clear p2);(try clear c3);(try clear c6);(try clear p6);(try clear c7);(try clear c7b0);(try clear c7b1);(try clear c7b2);(try clear c12);(try clear c13);(try clear c14);(try clear c14b0);(try clear c15);(try clear c15b0);(try clear c17);(try clear c18);(try clear c18b0);(try clear c19);(try clear p19);(try clear q19);(try clear qnc);(try clear GE);(try clear GF);(try clear GX);(try clear XO);(try clear XP);(try clear XQ);(try clear WP);(try clear WQ);(try clear WR);(try clear XR);(try clear XS);(try clear XT);(try clear XU);(try clear XV);(try clear XW);(try clear GL);(try clear GM);(try clear Ki);(try clear Kj);(try clear Kk);(try clear Kl);(try clear GG);(try clear GH);(try clear GY);(try clear XZ);(try clear qaa);(try clear qab);(try clear WS);(try clear WT);(try clear WU);(try clear qac);(try clear qad);(try clear qae);(try clear qaf);(try clear qag);(try clear qah);(try clear GN);(try clear GQ);(try clear Km);(try clear Kn);(try clear Ko);(try clear Kp);(try clear GZ);(try clear K0);(try clear K1);(try clear K2);(try clear Ka);(try clear Uk);(try clear qbh);(try clear qf1);(try clear p2);(try clear qbi);(try clear qf3);obtain ⟨qlo,Yt,rfl,rfl,HA,HK4,YR,HB⟩:=hrel
        cases gk with
        | zero=>exact absurd HA.out (by simp [Qo.l1])
        | succ k4 =>
         have H:=HA.out;clear HA;simp only [Qo.l1] at H
         by_cases c26:Yt<(Qd.length:Int)
         ·
          rw [if_pos c26] at H;have c26b0:decide (Yt<(Qd.length:Int))=true:=decide_eq_true c26;clear c26
          by_cases c27:0≤Yt
          ·
           rw [if_pos c27] at H;have c27b0:decide (0≤Yt)=true:=decide_eq_true c27;clear c27
           by_cases c28:Yt<(Qd.length:Int)
           ·
            rw [if_pos c28] at H;have c28b0:decide (Yt<(Qd.length:Int))=true:=decide_eq_true c28;clear c28;have qoX:=Q0.mk H;clear H;have qhj:0≤(Yt:Int):=of_decide_eq_true (by first|(with_reducible assumption)|assumption);have qhw:Yt<(Qd.length:Int):=of_decide_eq_true (by first|(with_reducible assumption)|assumption);obtain ⟨qdj,qy2,qzj,qzv,UZ,qiv,qim⟩:=qka JE.out Yt qhj qhw;cases qzv;replace UZ:=(HB.out.cell (World.block_lt_of_cell? w _ UZ)).trans UZ;have qlD:=Q0.mk qim;have qti:=Q0.mk qiv;clear qim qiv;replace qhj:=eq_true qhj;replace qhw:=eq_true qhw
            go_upto_region 10 with (fail)
            go_cut [4] (fun v4 wc => ∃ (kq:Nat) (qiU:Bool),v4 = .bool qiU∧Q0 (Qo.j4 kq (Qb.length:Int) qiU (QE Qd Yt) Qd (Qd.length:Int) Yt Qb Qh Qd=some r)∧Q0 (kq≤k4)∧Q0 (wc.heap[Jl]? = some (.cells #[(.slice Y3 Qb.length QG),(.slice Y1 Qh.length QI),(.slice (some qdj) Qd.length QJ)] 47 (0,0)))∧Q0 (Below w.heap.size w wc))
            case first =>
             have H:=qoX.out;clear qoX
             by_cases c30:qlo=true
             ·
              subst c30
              have H1:(Qo.j4 k4 (Qb.length:Int) (((QE Qd Yt).length:Int)==(Qb.length:Int)) (QE Qd Yt) Qd (Qd.length:Int) Yt Qb Qh Qd)=some r:=by rw [if_pos rfl] at H;exact H
              clear H;have H:=H1;clear H1;have H':=Q0.mk H;clear H
              go_wp2
              go_meet
              case rel=>exact ⟨_,((((QE Qd Yt).length:Int)==(Qb.length:Int))),(by first|rfl|(simp;done)|(simp [*];done)),H',⟨by have:=HJ1.out;have:=HK2.out;have:=Wk.out;have:=HK4.out;first|omega|exact Nat.le_refl _⟩,⟨by (with_reducible repeat (first|refine Q4 ?_ _|refine Q7 ?_|refine Q2 ?_ _));exact YR.out⟩,⟨by repeat (first|(with_reducible first|exact HB.out|apply Q3|apply Q1|apply Q6|refine Q5 ?_ Ge.out)|exact HB.out)⟩⟩
             replace c30:=Bool.eq_false_iff.mpr c30;subst c30
             have H1:(Qo.j4 k4 (Qb.length:Int) false (QE Qd Yt) Qd (Qd.length:Int) Yt Qb Qh Qd)=some r:=by rw [if_neg (show ¬ (false=true) by decide)] at H;exact H
             clear H;have H:=H1;clear H1;have H':=Q0.mk H;clear H
             go_wp2
             go_meet
             case rel=>exact ⟨_,(false),(by first|rfl|(simp;done)|(simp [*];done)),H',⟨by have:=HJ1.out;have:=HK2.out;have:=Wk.out;have:=HK4.out;first|omega|exact Nat.le_refl _⟩,⟨by (with_reducible repeat (first|refine Q4 ?_ _|refine Q7 ?_|refine Q2 ?_ _));exact YR.out⟩,⟨by repeat (first|(with_reducible first|exact HB.out|apply Q3|apply Q1|apply Q6|refine Q5 ?_ Ge.out)|exact HB.out)⟩⟩
            case rest =>
             clear qoX;(try clear c1);(try clear p1);(try clear q1);(try clear hx1);(try clear c2);(try clear p2);(try clear c3);(try clear c6);(try clear p6);(try clear c7);(try clear c7b0);(try clear c7b1);(try clear c7b2);(try clear c12);(try clear c13);(try clear c14);(try clear c14b0);(try clear c15);(try clear c15b0);(try clear c17);(try clear c18);(try clear c18b0);(try clear c19);(try clear p19);(try clear q19);(try clear qnc);(try clear c26);(try clear c26b0);(try clear c27);(try clear c27b0);(try clear c28);(try clear c28b0);(try clear c30);(try clear GE);(try clear GF);(try clear GX);(try clear XO);(try clear XP);(try clear XQ);(try clear WP);(try clear WQ);(try clear WR);(try clear XR);(try clear XS);(try clear XT);(try clear XU);(try clear XV);(try clear XW);(try clear GL);(try clear GM);(try clear Ki);(try clear Kj);(try clear Kk);(try clear Kl);(try clear GG);(try clear GH);(try clear GY);(try clear XZ);(try clear qaa);(try clear qab);(try clear WS);(try clear WT);(try clear WU);(try clear qac);(try clear qad);(try clear qae);(try clear qaf);(try clear qag);(try clear qah);(try clear GN);(try clear GQ);(try clear Km);(try clear Kn);(try clear Ko);(try clear Kp);(try clear GZ);(try clear K0);(try clear K1);(try clear K2);(try clear Ka);(try clear Uk);(try clear UZ);(try clear p1);(try clear p19);(try clear qbh);(try clear qf1);(try clear qhj);(try clear p2);(try clear p6);(try clear q1);(try clear q19);(try clear qbi);(try clear qf3);(try clear qhw);obtain ⟨kq,qiU,rfl,HA,qb9,YR,HB⟩:=hcut
             cases kq with
             | zero=>exact absurd HA.out (by simp [Qo.j4])
             | succ qta =>
              have H:=HA.out;clear HA;simp only [Qo.j4] at H;have H':=Q0.mk H;clear H
              go_wp2
              go_loopg [4,69] qta (fun kq v4 v69 w' => ∃ (qlp:Bool) (Zq:Int),v4 = .bool qlp∧v69 = .int .i64 Zq∧Q0 (Qo.l2 kq (Qb.length:Int) qlp Qd (Qd.length:Int) Yt (QE Qd Yt) ((QE Qd Yt).length:Int) Zq Qb Qh Qd=some r)∧Q0 (kq≤qta)∧Q0 (w'.heap[Jl]? = some (.cells #[(.slice Y3 Qb.length QG),(.slice Y1 Qh.length QI),(.slice (some qdj) Qd.length QJ)] 47 (0,0)))∧Q0 (Below w.heap.size w w'))
              case atStart=>exact ⟨(qiU),(0),(by first|rfl|(simp;done)|(simp [*];done)),(by first|rfl|(simp;done)|(simp [*];done)),H',⟨Nat.le_refl _⟩,⟨by (with_reducible repeat (first|refine Q4 ?_ _|refine Q7 ?_|refine Q2 ?_ _));exact YR.out⟩,⟨by repeat (first|(with_reducible first|exact HB.out|apply Q3|apply Q1|apply Q6|refine Q5 ?_ Ge.out)|exact HB.out)⟩⟩
              case round =>
               clear H';(try clear c1);(try clear p1);(try clear q1);(try clear hx1);(try clear c2);(try clear p2);(try clear c3);(try clear c6);(try clear p6);(try clear c7);(try clear c7b0);(try clear c7b1);(try clear c7b2);(try clear c12);(try clear c13);(try clear c14);(try clear c14b0);(try clear c15);(try clear c15b0);(try clear c17);(try clear c18);(try clear c18b0);(try clear c19);(try clear p19);(try clear q19);(try clear qnc);(try clear c26);(try clear c26b0);(try clear c27);(try clear c27b0);(try clear c28);(try clear c28b0);(try clear c30);(try clear GE);(try clear GF);(try clear GX);(try clear XO);(try clear XP);(try clear XQ);(try clear WP);(try clear WQ);(try clear WR);(try clear XR);(try clear XS);(try clear XT);(try clear XU);(try clear XV);(try clear XW);(try clear GL);(try clear GM);(try clear Ki);(try clear Kj);(try clear Kk);(try clear Kl);(try clear GG);(try clear GH);(try clear GY);(try clear XZ);(try clear qaa);(try clear qab);(try clear WS);(try clear WT);(try clear WU);(try clear qac);(try clear qad);(try clear qae);(try clear qaf);(try clear qag);(try clear qah);(try clear GN);(try clear GQ);(try clear Km);(try clear Kn);(try clear Ko);(try clear Kp);(try clear GZ);(try clear K0);(try clear K1);(try clear K2);(try clear Ka);(try clear Uk);(try clear UZ);(try clear p1);(try clear p19);(try clear qbh);(try clear qf1);(try clear qhj);(try clear p2);(try clear p6);(try clear q1);(try clear q19);(try clear qbi);(try clear qf3);(try clear qhw);obtain ⟨qlp,Zq,rfl,rfl,HA,HK6,YR,HB⟩:=hrel
               cases gk with
               | zero=>exact absurd HA.out (by simp [Qo.l2])
               | succ k6 =>
                have H:=HA.out;clear HA;simp only [Qo.l2] at H
                by_cases c31:Zq<((QE Qd Yt).length:Int)
                ·
                 rw [if_pos c31] at H;have c31b0:decide (Zq<((QE Qd Yt).length:Int))=true:=decide_eq_true c31;clear c31
                 by_cases c32:0≤Zq
                 ·
                  rw [if_pos c32] at H;have c32b0:decide (0≤Zq)=true:=decide_eq_true c32;clear c32
                  by_cases c33:Zq<((QE Qd Yt).length:Int)
                  ·
                   rw [if_pos c33] at H;have c33b0:decide (Zq<((QE Qd Yt).length:Int))=true:=decide_eq_true c33;clear c33;have qoZ:=Q0.mk H;clear H;have qk3:0≤(Zq:Int):=of_decide_eq_true (by first|(with_reducible assumption)|assumption);have qk8:Zq<((QE Qd Yt).length:Int):=of_decide_eq_true (by first|(with_reducible assumption)|assumption);obtain ⟨qAV,qy3,qzk,e195,qat,qiw,qin⟩:=Wm qlD.out Zq qk3 qk8;cases e195;replace qat:=(HB.out.cell (World.block_lt_of_cell? w _ qat)).trans qat;have qh6:=Q0.mk qin;have qtj:=Q0.mk qiw;clear qin qiw;replace qk3:=eq_true qk3;replace qk8:=eq_true qk8
                   go_upto_region 14 with (fail)
                   go_cut [4] (fun v4 wc => ∃ (kq:Nat) (qiV:Bool),v4 = .bool qiV∧Q0 (Qo.j6 kq (Qb.length:Int) qiV (QB (QE Qd Yt) Zq) Qd (Qd.length:Int) Yt (QE Qd Yt) ((QE Qd Yt).length:Int) Zq Qb Qh Qd=some r)∧Q0 (kq≤k6)∧Q0 (wc.heap[Jl]? = some (.cells #[(.slice Y3 Qb.length QG),(.slice Y1 Qh.length QI),(.slice (some qdj) Qd.length QJ)] 47 (0,0)))∧Q0 (Below w.heap.size w wc))
                   case first =>
                    have H:=qoZ.out;clear qoZ
                    by_cases c35:qlp=true
                    ·
                     subst c35
                     have H1:((Qj.f ((QB (QE Qd Yt) Zq).length:Int) 1 10).bind fun t196=>(if t196=true then (if 0<(Qd.length:Int) then (if 0<((QE Qd 0).length:Int) then (Qo.j6 k6 (Qb.length:Int) (((QB (QE Qd Yt) Zq).length:Int)==((QB (QE Qd 0) 0).length:Int)) (QB (QE Qd Yt) Zq) Qd (Qd.length:Int) Yt (QE Qd Yt) ((QE Qd Yt).length:Int) Zq Qb Qh Qd) else (none)) else (none)) else (Qo.j6 k6 (Qb.length:Int) false (QB (QE Qd Yt) Zq) Qd (Qd.length:Int) Yt (QE Qd Yt) ((QE Qd Yt).length:Int) Zq Qb Qh Qd)))=some r:=by rw [if_pos rfl] at H;exact H
                     clear H;have H:=H1;clear H1;replace H:=Option.bind_eq_some_iff.mp H;obtain ⟨t196,qjI,H⟩:=H;replace H:(if t196=true then (if 0<(Qd.length:Int) then (if 0<((QE Qd 0).length:Int) then (Qo.j6 k6 (Qb.length:Int) (((QB (QE Qd Yt) Zq).length:Int)==((QB (QE Qd 0) 0).length:Int)) (QB (QE Qd Yt) Zq) Qd (Qd.length:Int) Yt (QE Qd Yt) ((QE Qd Yt).length:Int) Zq Qb Qh Qd) else (none)) else (none)) else (Qo.j6 k6 (Qb.length:Int) false (QB (QE Qd Yt) Zq) Qd (Qd.length:Int) Yt (QE Qd Yt) ((QE Qd Yt).length:Int) Zq Qb Qh Qd))=some r:=H;have A36:=Q0.mk qjI;clear qjI
                     by_cases c37:t196=true
                     ·
                      subst c37
                      have H1:(if 0<(Qd.length:Int) then (if 0<((QE Qd 0).length:Int) then (Qo.j6 k6 (Qb.length:Int) (((QB (QE Qd Yt) Zq).length:Int)==((QB (QE Qd 0) 0).length:Int)) (QB (QE Qd Yt) Zq) Qd (Qd.length:Int) Yt (QE Qd Yt) ((QE Qd Yt).length:Int) Zq Qb Qh Qd) else (none)) else (none))=some r:=by rw [if_pos rfl] at H;exact H
                      clear H;have H:=H1;clear H1
                      by_cases c38:0<(Qd.length:Int)
                      ·
                       rw [if_pos c38] at H;have c38b0:decide (0<(Qd.length:Int))=true:=decide_eq_true c38;have c38b1:decide (0<Qd.length)=true:=decide_eq_true (by omega);clear c38
                       (first|rw [c38b0]|(simp only [Yj,Yu];rw [c38b0])|skip)
                       by_cases c39:0<((QE Qd 0).length:Int)
                       ·
                        rw [if_pos c39] at H;have c39b0:decide (0<((QE Qd 0).length:Int))=true:=decide_eq_true c39;have c39b1:decide (0<(QE Qd 0).length)=true:=decide_eq_true (by omega);clear c39;have H':=Q0.mk H;clear H
                        go_wp2_with (first|(go_at_call 65;(with_reducible refine (Qj.calls ((QB (QE Qd Yt) Zq).length:Int) 1 10 true _ A36.out).mono ?_);rintro e w' ⟨rfl,⟨nd,rfl⟩⟩;have qby:wr.cell? ⟨Jl,0,none⟩=some (.slice Y3 Qb.length QG):=(Q8 YR.out 0).trans rfl;have qbz:wr.cell? ⟨Jl,1,none⟩=some (.slice Y1 Qh.length QI):=(Q8 YR.out 1).trans rfl;have qbA:wr.cell? ⟨Jl,2,none⟩=some (.slice (some qdj) Qd.length QJ):=(Q8 YR.out 2).trans rfl;have qbJ:=Q9 YR.out 0;have qbK:=Q9 YR.out 1;have qbL:=Q9 YR.out 2;have qk4:0≤(0:Int):=(by omega);have qk9:0<(Qd.length:Int):=of_decide_eq_true (by first|(with_reducible assumption)|assumption);obtain ⟨qq0,qy4,qzl,e197,W4,qix,qio⟩:=qka JE.out 0 qk4 qk9;obtain rfl:qdj=qq0:=(by injection e197);have qCA:(0<Qd.length)=True:=eq_true (by omega);(try rw [show ((0:Int)).toNat=0 from rfl] at W4);(try rw [Addr.add_zero'] at W4);replace W4:=(HB.out.cell (World.block_lt_of_cell? w _ W4)).trans W4;have qlE:=Q0.mk qio;have qtk:=Q0.mk qix;clear qio qix;replace qk4:=eq_true qk4;replace qk9:=eq_true qk9;have qk5:0≤(0:Int):=(by omega);have qla:0<((QE Qd 0).length:Int):=of_decide_eq_true (by first|(with_reducible assumption)|assumption);obtain ⟨qAW,qy5,qzm,qzw,W5,qiy,qip⟩:=Wm qlE.out 0 qk5 qla;cases qzw;have qCB:(0<(QE Qd 0).length)=True:=eq_true (by omega);(try rw [show ((0:Int)).toNat=0 from rfl] at W5);(try rw [Addr.add_zero'] at W5);replace W5:=(HB.out.cell (World.block_lt_of_cell? w _ W5)).trans W5;have qtn:=Q0.mk qip;have qtl:=Q0.mk qiy;clear qip qiy;replace qk5:=eq_true qk5;replace qla:=eq_true qla))
                        go_meet
                        case rel=>exact ⟨_,((((QB (QE Qd Yt) Zq).length:Int)==((QB (QE Qd 0) 0).length:Int))),(by first|rfl|(simp;done)|(simp [*];done)),H',⟨by have:=HJ1.out;have:=HK2.out;have:=Wk.out;have:=HK4.out;have:=qb9.out;have:=HK6.out;first|omega|exact Nat.le_refl _⟩,⟨by (with_reducible repeat (first|refine Q4 ?_ _|refine Q7 ?_|refine Q2 ?_ _));exact YR.out⟩,⟨by repeat (first|(with_reducible first|exact HB.out|apply Q3|apply Q1|apply Q6|refine Q5 ?_ Ge.out)|exact HB.out)⟩⟩
                       rw [if_neg c39] at H
                       exact absurd H (by simp)
                      rw [if_neg c38] at H
                      exact absurd H (by simp)
                     replace c37:=Bool.eq_false_iff.mpr c37;subst c37
                     have H1:(Qo.j6 k6 (Qb.length:Int) false (QB (QE Qd Yt) Zq) Qd (Qd.length:Int) Yt (QE Qd Yt) ((QE Qd Yt).length:Int) Zq Qb Qh Qd)=some r:=by rw [if_neg (show ¬ (false=true) by decide)] at H;exact H
                     clear H;have H:=H1;clear H1;have H':=Q0.mk H;clear H
                     go_wp2_with (first|(go_at_call 65;(with_reducible refine (Qj.calls ((QB (QE Qd Yt) Zq).length:Int) 1 10 false _ A36.out).mono ?_);rintro e w' ⟨rfl,⟨nd,rfl⟩⟩))
                     go_meet
                     case rel=>exact ⟨_,(false),(by first|rfl|(simp;done)|(simp [*];done)),H',⟨by have:=HJ1.out;have:=HK2.out;have:=Wk.out;have:=HK4.out;have:=qb9.out;have:=HK6.out;first|omega|exact Nat.le_refl _⟩,⟨by (with_reducible repeat (first|refine Q4 ?_ _|refine Q7 ?_|refine Q2 ?_ _));exact YR.out⟩,⟨by repeat (first|(with_reducible first|exact HB.out|apply Q3|apply Q1|apply Q6|refine Q5 ?_ Ge.out)|exact HB.out)⟩⟩
                    replace c35:=Bool.eq_false_iff.mpr c35;subst c35
                    have H1:(Qo.j6 k6 (Qb.length:Int) false (QB (QE Qd Yt) Zq) Qd (Qd.length:Int) Yt (QE Qd Yt) ((QE Qd Yt).length:Int) Zq Qb Qh Qd)=some r:=by rw [if_neg (show ¬ (false=true) by decide)] at H;exact H
                    clear H;have H:=H1;clear H1;have H':=Q0.mk H;clear H
                    go_wp2
                    go_meet
                    case rel=>exact ⟨_,(false),(by first|rfl|(simp;done)|(simp [*];done)),H',⟨by have:=HJ1.out;have:=HK2.out;have:=Wk.out;have:=HK4.out;have:=qb9.out;have:=HK6.out;first|omega|exact Nat.le_refl _⟩,⟨by (with_reducible repeat (first|refine Q4 ?_ _|refine Q7 ?_|refine Q2 ?_ _));exact YR.out⟩,⟨by repeat (first|(with_reducible first|exact HB.out|apply Q3|apply Q1|apply Q6|refine Q5 ?_ Ge.out)|exact HB.out)⟩⟩
                   case rest =>
                    clear qoZ;(try clear c1);(try clear p1);(try clear q1);(try clear hx1);(try clear qi1);(try clear c2);(try clear p2);(try clear c3);(try clear c6);(try clear p6);(try clear c7);(try clear c7b0);(try clear c7b1);(try clear c7b2);(try clear c12);(try clear c13);(try clear c14);(try clear c14b0);(try clear c15);(try clear c15b0);(try clear c17);(try clear c18);(try clear c18b0);(try clear c19);(try clear p19);(try clear q19);(try clear qnc);(try clear qAt);(try clear c26);(try clear c26b0);(try clear c27);(try clear c27b0);(try clear c28);(try clear c28b0);(try clear c30);(try clear c31);(try clear c31b0);(try clear c32);(try clear c32b0);(try clear c33);(try clear c33b0);(try clear c35);(try clear c37);(try clear c38);(try clear c38b0);(try clear c38b1);(try clear c39);(try clear c39b0);(try clear c39b1);(try clear GE);(try clear GF);(try clear GX);(try clear XO);(try clear XP);(try clear XQ);(try clear WP);(try clear WQ);(try clear WR);(try clear XR);(try clear XS);(try clear XT);(try clear XU);(try clear XV);(try clear XW);(try clear qby);(try clear qbz);(try clear qbA);(try clear GL);(try clear GM);(try clear Ki);(try clear Kj);(try clear Kk);(try clear Kl);(try clear GG);(try clear GH);(try clear GY);(try clear XZ);(try clear qaa);(try clear qab);(try clear WS);(try clear WT);(try clear WU);(try clear qac);(try clear qad);(try clear qae);(try clear qaf);(try clear qag);(try clear qah);(try clear qbJ);(try clear qbK);(try clear qbL);(try clear GN);(try clear GQ);(try clear Km);(try clear Kn);(try clear Ko);(try clear Kp);(try clear GZ);(try clear K0);(try clear K1);(try clear K2);(try clear Ka);(try clear Uk);(try clear UZ);(try clear qat);(try clear W4);(try clear W5);(try clear p1);(try clear p19);(try clear qbh);(try clear qf1);(try clear qhj);(try clear qk3);(try clear qk4);(try clear qk5);(try clear p2);(try clear p6);(try clear q1);(try clear q19);(try clear qbi);(try clear qf3);(try clear qhw);(try clear qk8);(try clear qk9);(try clear qla);obtain ⟨kq,qiV,rfl,HA,qiZ,YR,HB⟩:=hcut
                    cases kq with
                    | zero=>exact absurd HA.out (by simp [Qo.j6])
                    | succ qtb =>
                     have H:=HA.out;clear HA;simp only [Qo.j6] at H;have H':=Q0.mk H;clear H
                     go_wp2
                     go_loopg [4,93] qtb (fun kq v4 v93 w' => ∃ (qlq:Bool) (Gw:Int),v4 = .bool qlq∧v93 = .int .i64 Gw∧Q0 (Qo.l3 kq (Qb.length:Int) qlq Qd (Qd.length:Int) Yt (QE Qd Yt) ((QE Qd Yt).length:Int) Zq (QB (QE Qd Yt) Zq) ((QB (QE Qd Yt) Zq).length:Int) Gw Qb Qh Qd=some r)∧Q0 (kq≤qtb)∧Q0 (w'.heap[Jl]? = some (.cells #[(.slice Y3 Qb.length QG),(.slice Y1 Qh.length QI),(.slice (some qdj) Qd.length QJ)] 47 (0,0)))∧Q0 (Below w.heap.size w w'))
                     case atStart=>exact ⟨(qiV),(0),(by first|rfl|(simp;done)|(simp [*];done)),(by first|rfl|(simp;done)|(simp [*];done)),H',⟨Nat.le_refl _⟩,⟨by (with_reducible repeat (first|refine Q4 ?_ _|refine Q7 ?_|refine Q2 ?_ _));exact YR.out⟩,⟨by repeat (first|(with_reducible first|exact HB.out|apply Q3|apply Q1|apply Q6|refine Q5 ?_ Ge.out)|exact HB.out)⟩⟩
                     case round =>
                      clear H';(try clear c1);(try clear p1);(try clear q1);(try clear hx1);(try clear qi1);(try clear c2);(try clear p2);(try clear c3);(try clear c6);(try clear p6);(try clear c7);(try clear c7b0);(try clear c7b1);(try clear c7b2);(try clear c12);(try clear c13);(try clear c14);(try clear c14b0);(try clear c15);(try clear c15b0);(try clear c17);(try clear c18);(try clear c18b0);(try clear c19);(try clear p19);(try clear q19);(try clear qnc);(try clear qAt);(try clear c26);(try clear c26b0);(try clear c27);(try clear c27b0);(try clear c28);(try clear c28b0);(try clear c30);(try clear c31);(try clear c31b0);(try clear c32);(try clear c32b0);(try clear c33);(try clear c33b0);(try clear c35);(try clear c37);(try clear c38);(try clear c38b0);(try clear c38b1);(try clear c39);(try clear c39b0);(try clear c39b1);(try clear GE);(try clear GF);(try clear GX);(try clear XO);(try clear XP);(try clear XQ);(try clear WP);(try clear WQ);(try clear WR);(try clear XR);(try clear XS);(try clear XT);(try clear XU);(try clear XV);(try clear XW);(try clear qby);(try clear qbz);(try clear qbA);(try clear GL);(try clear GM);(try clear Ki);(try clear Kj);(try clear Kk);(try clear Kl);(try clear GG);(try clear GH);(try clear GY);(try clear XZ);(try clear qaa);(try clear qab);(try clear WS);(try clear WT);(try clear WU);(try clear qac);(try clear qad);(try clear qae);(try clear qaf);(try clear qag);(try clear qah);(try clear qbJ);(try clear qbK);(try clear qbL);(try clear GN);(try clear GQ);(try clear Km);(try clear Kn);(try clear Ko);(try clear Kp);(try clear GZ);(try clear K0);(try clear K1);(try clear K2);(try clear Ka);(try clear Uk);(try clear UZ);(try clear qat);(try clear W4);(try clear W5);(try clear p1);(try clear p19);(try clear qbh);(try clear qf1);(try clear qhj);(try clear qk3);(try clear qk4);(try clear qk5);(try clear p2);(try clear p6);(try clear q1);(try clear q19);(try clear qbi);(try clear qf3);(try clear qhw);(try clear qk8);(try clear qk9);(try clear qla);obtain ⟨qlq,Gw,rfl,rfl,HA,HK8,YR,HB⟩:=hrel
                      cases gk with
                      | zero=>exact absurd HA.out (by simp [Qo.l3])
                      | succ k8 =>
                       have H:=HA.out;clear HA;simp only [Qo.l3] at H
                       by_cases c41:Gw<((QB (QE Qd Yt) Zq).length:Int)
                       ·
                        rw [if_pos c41] at H;have c41b0:decide (Gw<((QB (QE Qd Yt) Zq).length:Int))=true:=decide_eq_true c41;clear c41
                        by_cases c42:0≤Gw
                        ·
                         rw [if_pos c42] at H;have c42b0:decide (0≤Gw)=true:=decide_eq_true c42;clear c42
                         by_cases c43:Gw<((QB (QE Qd Yt) Zq).length:Int)
                         ·
                          rw [if_pos c43] at H;have c43b0:decide (Gw<((QB (QE Qd Yt) Zq).length:Int))=true:=decide_eq_true c43;clear c43
                          by_cases c44:qlq=true
                          ·
                           subst c44
                           have H1:((Qj.f (rd (QB (QE Qd Yt) Zq) Gw) 0 100000).bind fun qhG=>(Qo.l3 k8 (Qb.length:Int) qhG Qd (Qd.length:Int) Yt (QE Qd Yt) ((QE Qd Yt).length:Int) Zq (QB (QE Qd Yt) Zq) ((QB (QE Qd Yt) Zq).length:Int) (wrap64 (Gw+1)) Qb Qh Qd))=some r:=by rw [if_pos rfl] at H;exact H
                           clear H;have H:=H1;clear H1;replace H:=Option.bind_eq_some_iff.mp H;obtain ⟨qhG,qjJ,H⟩:=H;replace H:(Qo.l3 k8 (Qb.length:Int) qhG Qd (Qd.length:Int) Yt (QE Qd Yt) ((QE Qd Yt).length:Int) Zq (QB (QE Qd Yt) Zq) ((QB (QE Qd Yt) Zq).length:Int) (wrap64 (Gw+1)) Qb Qh Qd)=some r:=H;have A45:=Q0.mk qjJ;clear qjJ;have H':=Q0.mk H;clear H;have qhk:0≤(Gw:Int):=of_decide_eq_true (by first|(with_reducible assumption)|assumption);have qhx:Gw<((QB (QE Qd Yt) Zq).length:Int):=of_decide_eq_true (by first|(with_reducible assumption)|assumption);obtain ⟨qq1,e199,W6⟩:=Kd.at_int qh6.out Gw qhk qhx;cases e199;replace W6:=(HB.out.cell (World.block_lt_of_cell? w _ W6)).trans W6;replace qhk:=eq_true qhk;replace qhx:=eq_true qhx
                           go_wp2_with (first|(go_at_call 65;(with_reducible refine (Qj.calls (rd (QB (QE Qd Yt) Zq) Gw) 0 100000 qhG _ A45.out).mono ?_);rintro e w' ⟨rfl,⟨nd,rfl⟩⟩))
                           go_roundg k8
                           case measure=>have:=HJ1.out;have:=HK2.out;have:=Wk.out;have:=HK4.out;have:=qb9.out;have:=HK6.out;have:=qiZ.out;have:=HK8.out;omega
                           case rel=>exact ⟨(qhG),(wrap64 (Gw+1)),(by first|rfl|(simp;done)|(simp [*];done)),(by first|rfl|(simp;done)|(simp [*];done)),H',⟨by have:=HJ1.out;have:=HK2.out;have:=Wk.out;have:=HK4.out;have:=qb9.out;have:=HK6.out;have:=qiZ.out;have:=HK8.out;omega⟩,⟨by (with_reducible repeat (first|refine Q4 ?_ _|refine Q7 ?_|refine Q2 ?_ _));exact YR.out⟩,⟨by repeat (first|(with_reducible first|exact HB.out|apply Q3|apply Q1|apply Q6|refine Q5 ?_ Ge.out)|exact HB.out)⟩⟩
                          replace c44:=Bool.eq_false_iff.mpr c44;subst c44
                          have H1:(Qo.l3 k8 (Qb.length:Int) false Qd (Qd.length:Int) Yt (QE Qd Yt) ((QE Qd Yt).length:Int) Zq (QB (QE Qd Yt) Zq) ((QB (QE Qd Yt) Zq).length:Int) (wrap64 (Gw+1)) Qb Qh Qd)=some r:=by rw [if_neg (show ¬ (false=true) by decide)] at H;exact H
                          clear H;have H:=H1;clear H1;have H':=Q0.mk H;clear H;have qhk:0≤(Gw:Int):=of_decide_eq_true (by first|(with_reducible assumption)|assumption);have qhx:Gw<((QB (QE Qd Yt) Zq).length:Int):=of_decide_eq_true (by first|(with_reducible assumption)|assumption);obtain ⟨qq1,e199,W6⟩:=Kd.at_int qh6.out Gw qhk qhx;cases e199;replace W6:=(HB.out.cell (World.block_lt_of_cell? w _ W6)).trans W6;replace qhk:=eq_true qhk;replace qhx:=eq_true qhx
                          go_wp2
                          go_roundg k8
                          case measure=>have:=HJ1.out;have:=HK2.out;have:=Wk.out;have:=HK4.out;have:=qb9.out;have:=HK6.out;have:=qiZ.out;have:=HK8.out;omega
                          case rel=>exact ⟨(false),(wrap64 (Gw+1)),(by first|rfl|(simp;done)|(simp [*];done)),(by first|rfl|(simp;done)|(simp [*];done)),H',⟨by have:=HJ1.out;have:=HK2.out;have:=Wk.out;have:=HK4.out;have:=qb9.out;have:=HK6.out;have:=qiZ.out;have:=HK8.out;omega⟩,⟨by (with_reducible repeat (first|refine Q4 ?_ _|refine Q7 ?_|refine Q2 ?_ _));exact YR.out⟩,⟨by repeat (first|(with_reducible first|exact HB.out|apply Q3|apply Q1|apply Q6|refine Q5 ?_ Ge.out)|exact HB.out)⟩⟩
                         rw [if_neg c43] at H
                         exact absurd H (by simp)
                        rw [if_neg c42] at H
                        exact absurd H (by simp)
                       rw [if_neg c41] at H;have c41b0:decide (Gw<((QB (QE Qd Yt) Zq).length:Int))=false:=decide_eq_false c41;clear c41;have H':=Q0.mk H;clear H
                       go_wp2
                       go_roundg k8
                       case measure=>have:=HJ1.out;have:=HK2.out;have:=Wk.out;have:=HK4.out;have:=qb9.out;have:=HK6.out;have:=qiZ.out;have:=HK8.out;omega
                       case rel=>exact ⟨(qlq),(wrap64 (Zq+1)),(by first|rfl|(simp;done)|(simp [*];done)),(by first|rfl|(simp;done)|(simp [*];done)),H',⟨by have:=HJ1.out;have:=HK2.out;have:=Wk.out;have:=HK4.out;have:=qb9.out;have:=HK6.out;have:=qiZ.out;have:=HK8.out;omega⟩,⟨by (with_reducible repeat (first|refine Q4 ?_ _|refine Q7 ?_|refine Q2 ?_ _));exact YR.out⟩,⟨by repeat (first|(with_reducible first|exact HB.out|apply Q3|apply Q1|apply Q6|refine Q5 ?_ Ge.out)|exact HB.out)⟩⟩
                  rw [if_neg c33] at H
                  exact absurd H (by simp)
                 rw [if_neg c32] at H
                 exact absurd H (by simp)
                rw [if_neg c31] at H;have c31b0:decide (Zq<((QE Qd Yt).length:Int))=false:=decide_eq_false c31;clear c31;have H':=Q0.mk H;clear H
                go_wp2
                go_roundg k6
                case measure=>have:=HJ1.out;have:=HK2.out;have:=Wk.out;have:=HK4.out;have:=qb9.out;have:=HK6.out;omega
                case rel=>exact ⟨(qlp),(wrap64 (Yt+1)),(by first|rfl|(simp;done)|(simp [*];done)),(by first|rfl|(simp;done)|(simp [*];done)),H',⟨by have:=HJ1.out;have:=HK2.out;have:=Wk.out;have:=HK4.out;have:=qb9.out;have:=HK6.out;omega⟩,⟨by (with_reducible repeat (first|refine Q4 ?_ _|refine Q7 ?_|refine Q2 ?_ _));exact YR.out⟩,⟨by repeat (first|(with_reducible first|exact HB.out|apply Q3|apply Q1|apply Q6|refine Q5 ?_ Ge.out)|exact HB.out)⟩⟩
           rw [if_neg c28] at H
           exact absurd H (by simp)
          rw [if_neg c27] at H
          exact absurd H (by simp)
         rw [if_neg c26] at H;have c26b0:decide (Yt<(Qd.length:Int))=false:=decide_eq_false c26;clear c26
         by_cases c46:qlo=true
         ·
          subst c46
          have H1:(some 0)=some r:=by rw [if_pos rfl] at H;exact H
          clear H;have H:=H1;clear H1;obtain rfl:=Option.some.inj H
          go_wp2
          go_ret
          exact ⟨by first|rfl|(simp [Qq,Qr]<;>rfl)|(simp [*,Qq,Qr]<;>rfl),by repeat (first|(with_reducible first|exact HB.out|apply Q3|apply Q1|apply Q6|refine Q5 ?_ Ge.out)|exact HB.out)⟩
         replace c46:=Bool.eq_false_iff.mpr c46;subst c46
         have H1:(some 93)=some r:=by rw [if_neg (show ¬ (false=true) by decide)] at H;exact H
         clear H;have H:=H1;clear H1;obtain rfl:=Option.some.inj H
         go_wp2
         go_ret
         exact ⟨by first|rfl|(simp [Qq,Qr]<;>rfl)|(simp [*,Qq,Qr]<;>rfl),by repeat (first|(with_reducible first|exact HB.out|apply Q3|apply Q1|apply Q6|refine Q5 ?_ Ge.out)|exact HB.out)⟩
end
section
theorem qkd (b:Nat) (x q:Int) (w:World) (hq:w.cell? ⟨b,0,none⟩=some (.int .i64 q)) :
  Calls Try.prog 103 #[.int .i64 x,.pointer (some ⟨b,0,none⟩)] w fun e w'=>e = .returned (.bool (x != q))∧w=w':=by
 go_enter Try.func103,Try.ntmps103
 go_wp2
 go_ret
 exact ⟨rfl,rfl⟩
set_option maxHeartbeats 4000000 in
set_option maxRecDepth 100000 in
theorem indexFunc_103.calls (A:Option Addr) (c:Nat) (l:List Int) (b:Nat) (q:Int) (w:World) (hr:Kd.C (Kd.int .i64) w A l.length l) (hq:w.cell? ⟨b,0,none⟩=some (.int .i64 q)) :
  Calls Try.prog 113 #[.slice A l.length c,.func (.func 103) #[] #[.pointer (some ⟨b,0,none⟩)]] w fun e w'=>(∃ r:Int,e = .returned (.int .i64 r)∧decide (0≤r)=l.any (fun z=>z != q))∧Yg w w':=by
 have HR:=Q0.mk hr
 have hmx:l.length≤9223372036854775807:=hr.2.1
 clear hr
 go_enter Try.func113,Try.ntmps113
 go_wp2
 go_loopg [8] l.length (fun d v8 w' => ∃ (x:Int) (k:Nat),v8 = .int .i64 x∧Q0 (x=(k:Int))∧Q0 (k+d=l.length)∧Q0 ((l.take k).any (fun z=>z != q)=false)∧Yg w w')
 case atStart=>exact ⟨_,0,rfl,⟨rfl⟩,⟨Nat.zero_add _⟩,⟨by simp⟩,Yg.refl _⟩
 case round =>
  obtain ⟨x,k,rfl,HX,HD,HN,⟨m1,rfl⟩⟩:=hrel
  by_cases hk:x<(l.length:Int)
  ·
   have hx0:0≤x:=by have:=HX.out;omega
   obtain ⟨ad,ea,hA⟩:=Kd.at_int HR.out x hx0 hk
   subst ea
   have hkl:k<l.length:=by have:=HX.out;omega
   have HEL:=Q0.mk (show rd l x=l[k] by rw [HX.out];simp [rd,List.getD_eq_getElem?_getD,List.getElem?_eq_getElem hkl])
   have HTK:=Q0.mk (show (l.take (k+1)).any (fun z=>z != q)=((l.take k).any (fun z=>z != q)||(fun z=>z != q) (rd l x)) by rw [List.take_succ_eq_append_getElem hkl,List.any_append,HEL.out];simp)
   by_cases hp:(fun z=>z != q) (rd l x)=true
   ·
    have HP:=Q0.mk hp;have hb:(rd l x != q)=true:=HP.out;clear hp
    go_wp2_with (go_at_call 103;refine (qkd b (rd l x) q _ ?hc).mono ?_;(case hc=>simpa using hq);rintro e w1 ⟨rfl,rfl⟩)
    go_ret
    refine ⟨⟨_,rfl,?_⟩,⟨_,rfl⟩⟩;rw [decide_eq_true (by simpa using hx0)]
    symm
    rw [List.any_eq_true]
    exact ⟨l[k],List.getElem_mem hkl,HEL.out ▸ HP.out⟩
   ·
    have HP:=Q0.mk (Bool.eq_false_iff.2 hp);have hb:(rd l x != q)=false:=HP.out;clear hp
    cases gk with
    | zero=>exact absurd hk (by have:=HX.out;have:=HD.out;omega)
    | succ d =>
     go_wp2_with (go_at_call 103;refine (qkd b (rd l x) q _ ?hc).mono ?_;(case hc=>simpa using hq);rintro e w1 ⟨rfl,rfl⟩)
     go_roundg d
     case measure=>omega
     case rel=>exact ⟨_,k+1,rfl,⟨by rw [HX.out];rfl⟩,⟨by have:=HD.out;omega⟩,⟨by rw [HTK.out,HN.out,HP.out];rfl⟩,⟨_,rfl⟩⟩
  ·
   go_wp2
   go_ret
   refine ⟨⟨_,rfl,?_⟩,⟨_,rfl⟩⟩
   have hkk:k=l.length:=by have:=HX.out;have:=HD.out;omega
   have:=HN.out
   rw [hkk,List.take_length] at this
   rw [this]
   rfl
set_option maxRecDepth 100000 in
theorem containsFunc_103.calls (A:Option Addr) (c:Nat) (l:List Int) (b:Nat) (q:Int) (w:World) (hr:Kd.C (Kd.int .i64) w A l.length l) (hq:w.cell? ⟨b,0,none⟩=some (.int .i64 q)) :
  Calls Try.prog 102 #[.slice A l.length c,.func (.func 103) #[] #[.pointer (some ⟨b,0,none⟩)]] w fun e w'=>e = .returned (.bool (l.any (fun z=>z != q)))∧Yg w w':=by
 go_enter Try.func102,Try.ntmps102
 go_wp2_with (go_at_call 113;refine (indexFunc_103.calls A c l b q _ ?h1 ?h2).mono ?_;(case h1=>exact hr);(case h2=>exact hq);rintro e w' ⟨⟨r,rfl,hd⟩,⟨n1,rfl⟩⟩;have HD:=Q0.mk hd;clear hd)
 go_ret
 exact ⟨congrArg (fun b_=>Ending.returned (.bool b_)) HD.out,⟨_,rfl⟩⟩
def J7.f (l0:List Int) (a1:Int):Option Bool:=some (l0.any (fun z=>z != a1))
theorem containsG.calls (b:Nat) (A0:Option Addr) (c0 n:Nat) (l0:List Int) (a1:Int) (r:Bool) (w:World) (hn:n=l0.length) (hr0:Kd.C (Kd.int .i64) w A0 l0.length l0) (hc0:l0.length≤c0) (hq:w.cell? ⟨b,0,none⟩=some (.int .i64 a1)) (h:J7.f l0 a1=some r) :
  Calls Try.prog 102 #[.slice A0 n c0,.func (.func 103) #[] #[.pointer (some ⟨b,0,none⟩)]] w fun e w'=>e = .returned (.bool r)∧Yg w w':=by
 unfold J7.f at h
 injection h with h
 subst h hn
 exact containsFunc_103.calls A0 c0 l0 b a1 w hr0 hq
def XG (z:Int):Bool:=!(decide (0≤z)&&decide (z≤100000))
theorem qzn (x:Int) (w:World):Calls Try.prog 110 #[.int .i64 x] w fun e w'=>e = .returned (.bool (XG x))∧w=w':=by
 by_cases h1:0≤x
 ·
  by_cases h2:x≤100000
  ·
   go_enter Try.func110,Try.ntmps110
   go_wp2
   go_ret
   exact ⟨by simp [XG,h1,h2],rfl⟩
  ·
   go_enter Try.func110,Try.ntmps110
   go_wp2
   go_ret
   exact ⟨by simp [XG,h1,h2],rfl⟩
 ·
  go_enter Try.func110,Try.ntmps110
  go_wp2
  go_ret
  exact ⟨by simp [XG,h1],rfl⟩
end
end Go.Proofs.Ytmhomdohhihlcaa.P
