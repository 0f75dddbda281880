/- What the statement StockMixed leans on, part 3 of 6: contracts of the program's functions; conditions: none. -/
import Derived.Deep.RegionLaw
import Derived.Deep.RegionHeld3
import Derived.StillTailTactics
import Derived.Deep.RegionWith
import Derived.BigRegion
import Derived.Outline
import Derived.Test.YtmhomdohhihlcaaStockMixedx0
import Derived.Test.YtmhomdohhihlcaaStockMixedx1
set_option linter.unusedVariables false
set_option linter.unusedSimpArgs false
set_option linter.constructorNameAsVariable false
set_option linter.unusedSectionVars false
namespace Go.Proofs.Ytmhomdohhihlcaa.P
open Go.RowKit Go.Proofs.YtmhomdohhihlcaaW.PrintWords Go.Proofs.YtmhomdohhihlcaaW.PrintLast Go.Proofs.YtmhomdohhihlcaaW.PrintMore
section
attribute [local go_sem] YF YH YY YZ Yq Yr YG YI
def OM (mesh:Int):Nat→List Int→Int→List Int × Int
 | 0,n,t=>(n,t)
 | j+1,n,t=>if mesh≤(j:Int) then OM mesh j (n.set j (wrap64 (rd n j-mn (rd n j) t))) (wrap64 (t-mn (rd n j) t)) else (n,t)
def KN (n spawn:List Int) (k:Nat):List Int:=(List.range k).map fun i:Nat=>wrap64 (rd n i*rd spawn i)
def UO (last:Int) (n keep:List Int):Nat→List Int
 | 0=>[0,0,0,0,0,0]
 | k+1=>(UO last n keep k).set (mn ((k:Int)+1) last).toNat (wrap64 (rd (UO last n keep k) (mn ((k:Int)+1) last)+wrap64 (Int.tdiv (wrap64 (rd n k*rd keep k)) 1000)))
def sumW (l:List Int):Int:=l.foldl (fun s x=>wrap64 (s+x)) 0
theorem qlK (l:List Int) (hl:l.length≤9223372036854775806) (d:Nat):∀ (s:Int) (i:Nat),i≤l.length→l.length-i=d→QS.l0 (d+1) s l (l.length:Int) i=some ((l.drop i).foldl (fun s x=>wrap64 (s+x)) s):=by
 induction d with
 | zero =>
  intro s i h1 h2
  obtain rfl:i=l.length:=by omega
  simp [QS.l0]
 | succ d ih =>
  intro s i h1 h2
  have hi:i<l.length:=by omega
  rw [QS.l0,if_pos (by omega),if_pos (by omega),if_pos (by omega)]
  have hw:wrap64 ((i:Int)+1)=((i+1:Nat):Int):=by unfold wrap64;omega
  rw [hw,ih _ (i+1) (by omega) (by omega)]
  conv=>rhs;rw [List.drop_eq_getElem_cons hi]
  simp only [rd,Int.toNat_natCast,List.getD_eq_getElem?_getD,List.getElem?_eq_getElem hi,Option.getD_some,List.foldl_cons]
theorem qek (l:List Int) (hl:l.length≤9223372036854775806):QS.f (l.length+1) l=some (sumW l):=by
 have h:=qlK l hl l.length 0 0 (by omega) (by omega)
 simpa [QS.f,sumW] using h
theorem qaZ (last:Int) (n keep:List Int):∀ k,(UO last n keep k).length=6
 | 0=>rfl
 | k+1=>by rw [UO,List.length_set,qaZ last n keep k]
theorem qjq (m i:Int) (h:m≤i) (h0:0≤m):0≤i:=by omega
set_option maxHeartbeats 4000000 in
set_option maxRecDepth 100000 in
theorem Zg.calls6 (A0:Option Addr) (c0 m:Nat) (A1:Option Addr) (c1:Nat) (l1:List Int) (A2:Option Addr) (c2:Nat) (l2:List Int) (a3 a4:Int) (n:List Int) (take rec_:Int) (w:World)
  (hn:n.length=6) (hm1:1≤m) (hm6:m≤6) (e1:l1.length=m) (e2:l2.length=m) (hm0:0≤a4) (hmm:a4<m) (hr1:Kd.C (Kd.int .i64) w A1 l1.length l1) (hr2:Kd.C (Kd.int .i64) w A2 l2.length l2) :
  Calls Try.prog 77 #[.agg #[.slice A0 m c0,.slice A1 l1.length c1,.slice A2 l2.length c2,.int .i64 a3,.int .i64 a4],.agg #[.int .i64 (rd n 0),.int .i64 (rd n 1),.int .i64 (rd n 2),.int .i64 (rd n 3),.int .i64 (rd n 4),.int .i64 (rd n 5)],.int .i64 take,.int .i64 rec_] w fun e w' =>
   e = .returned (.tuple #[.int .i64 (sumW (KN (OM a4 m n take).1 l2 m)),.agg (ar6 ((UO ((m:Int)-1) (OM a4 m n take).1 l1 m).set 0 (wrap64 (rd (UO ((m:Int)-1) (OM a4 m n take).1 l1 m) 0+rec_)))).toArray])∧Below w.heap.size w w':=by
 have hu:=Try.underlying111
 have hu2:=Try.underlying39
 have hu3:=Try.underlying115
 have HR1:=Q0.mk hr1
 have HR2:=Q0.mk hr2
 have HN:=Q0.mk hn
 have HE1:=Q0.mk e1
 have HE2:=Q0.mk e2
 have HB:=Q0.mk (Below.refl w.heap.size w)
 clear hr1 hr2 hn e1 e2
 obtain ⟨R,hR⟩:∃ R,R=OM a4 m n take:=⟨_,rfl⟩
 rw [← hR]
 have HRR:=Q0.mk hR
 clear hR
 go_enter Try.func77,Try.ntmps77
 go_wp2_with (fail)
 have BR0:(((w.alloc (.cells #[.slice A0 m c0,.slice A1 l1.length c1,.slice A2 l2.length c2,.int .i64 a3,.int .i64 a4] 111)).alloc (.cells (ar6 n).toArray 115)).alloc (.cells (ar6 []).toArray 115)).heap[w.heap.size]? = some (.cells #[.slice A0 m c0,.slice A1 l1.length c1,.slice A2 l2.length c2,.int .i64 a3,.int .i64 a4] 111 (0,0)):=Q3 (Q3 (OQ w _) _) _
 have I50:Is6 (((w.alloc (.cells #[.slice A0 m c0,.slice A1 l1.length c1,.slice A2 l2.length c2,.int .i64 a3,.int .i64 a4] 111)).alloc (.cells (ar6 n).toArray 115)).alloc (.cells (ar6 []).toArray 115)) (w.heap.size+1) n:=by
  have h:=OQ (w.alloc (.cells #[.slice A0 m c0,.slice A1 l1.length c1,.slice A2 l2.length c2,.int .i64 a3,.int .i64 a4] 111)) (.cells (ar6 n).toArray 115)
  rw [World.size_alloc] at h
  exact Q3 h _
 have I90:Is6 (((w.alloc (.cells #[.slice A0 m c0,.slice A1 l1.length c1,.slice A2 l2.length c2,.int .i64 a3,.int .i64 a4] 111)).alloc (.cells (ar6 n).toArray 115)).alloc (.cells (ar6 []).toArray 115)) (w.heap.size+1+1) []:=by
  have h:=OQ ((w.alloc (.cells #[.slice A0 m c0,.slice A1 l1.length c1,.slice A2 l2.length c2,.int .i64 a3,.int .i64 a4] 111)).alloc (.cells (ar6 n).toArray 115)) (.cells (ar6 []).toArray 115)
  rw [World.size_alloc,World.size_alloc] at h
  exact h
 have BR:=Q0.mk BR0
 have I5:=Q0.mk I50
 have I9:=Q0.mk I90
 clear BR0 I50 I90
 go_loopg [2,11] m (fun j v2 v11 w' => ∃ (t i:Int) (n':List Int),v2 = .int .i64 t∧v11 = .int .i64 i∧Q0 (i=(j:Int)-1)∧Q0 (j≤m)∧Q0 (n'.length=6)∧Q0 (R=OM a4 j n' t)∧Q0 (w'.heap[w.heap.size]? = some (.cells #[.slice A0 m c0,.slice A1 l1.length c1,.slice A2 l2.length c2,.int .i64 a3,.int .i64 a4] 111 (0,0)))∧Q0 (Is6 w' (w.heap.size+1) n')∧Q0 (Is6 w' (w.heap.size+1+1) [])∧Q0 (Below w.heap.size w w'))
 case atStart=>exact ⟨take,_,n,rfl,rfl,⟨rfl⟩,⟨Nat.le_refl _⟩,HN,HRR,BR,I5,I9,⟨Q2 (Q2 (Q2 HB.out _) _) _⟩⟩
 case round =>
  clear HRR BR I5 I9 HB HN
  obtain ⟨t,i,n',rfl,rfl,HI,HJ,HN,HRR,BR,I5,I9,HB⟩:=hrel
  have b0:wr.cell? ⟨w.heap.size,0,none⟩=some (.slice A0 m c0):=(Q8 BR.out 0).trans rfl
  have b1:wr.cell? ⟨w.heap.size,1,none⟩=some (.slice A1 l1.length c1):=(Q8 BR.out 1).trans rfl
  have b2:wr.cell? ⟨w.heap.size,2,none⟩=some (.slice A2 l2.length c2):=(Q8 BR.out 2).trans rfl
  have b3:wr.cell? ⟨w.heap.size,3,none⟩=some (.int .i64 a3):=(Q8 BR.out 3).trans rfl
  have b4:wr.cell? ⟨w.heap.size,4,none⟩=some (.int .i64 a4):=(Q8 BR.out 4).trans rfl
  by_cases hc:a4≤i
  ·
   have h0:0≤i:=qjq a4 i hc hm0
   have h6:i<6:=by have:=HI.out;have:=HJ.out;omega
   have hx:=I5.out.celli i h0 h6
   have hf:=I5.out.frz i.toNat
   obtain ⟨c,hce⟩:∃ c,(if t<rd n' i then t else rd n' i)=c:=⟨_,rfl⟩
   have HC:=Q0.mk (show mn (rd n' i) t=c from hce)
   go_wp2
   cases gk with
   | zero=>exact absurd h0 (by have:=HI.out;omega)
   | succ j =>
    have hij:i=(j:Int):=by have:=HI.out;omega
    subst hij
    go_roundg j
    case measure=>omega
    case rel=>exact ⟨_,_,_,rfl,rfl,⟨rfl⟩,⟨by have:=HJ.out;omega⟩,⟨by rw [List.length_set];exact HN.out⟩,⟨by rw [HRR.out,OM,if_pos hc,HC.out];rfl⟩,⟨Qm BR.out (Nat.ne_of_lt (Nat.lt_succ_self _)) _⟩,⟨I5.out.seti HN.out _ h0 h6 _⟩,⟨I9.out.far (Nat.succ_ne_self _) _⟩,⟨Q7 HB.out (Nat.le_succ _)⟩⟩
  ·
   have HRn:=Q0.mk (show R.1=n' by
    rw [HRR.out]
    cases gk with
    | zero=>rfl
    | succ j=>rw [OM,if_neg (by have:=HI.out;omega)])
   clear HRR HI HJ
   obtain ⟨W1,rfl⟩:∃ W1:World,W1=wr:=⟨_,rfl⟩
   have hlt:=I9.out.lt
   have I14:=Q0.mk (show Is6 (W1.alloc (.cells (ar6 []).toArray 115)) W1.heap.size [0,0,0,0,0,0] from OQ W1 _)
   replace BR:=Q0.mk (Q3 BR.out (.cells (ar6 []).toArray 115))
   replace I5:=Q0.mk (I5.out.alloc (.cells (ar6 []).toArray 115))
   replace I9:=Q0.mk (I9.out.alloc (.cells (ar6 []).toArray 115))
   replace HB:=Q0.mk (Q2 HB.out (.cells (ar6 []).toArray 115))
   go_wp2
   clear b0 b1 b2 b3 b4
   go_loopg [13,46] m (fun d v13 v46 w' => ∃ (i:Int) (k:Nat) (sv:Value),v46 = .int .i64 i∧sv=v13∧Q0 (i=(k:Int))∧Q0 (k+d=m)∧Q0 (Kd.R (Kd.int .i64) 3 w' w.heap.size (fun _=>True) sv (KN n' l2 k))∧Q0 (Is6 w' W1.heap.size (UO ((m:Int)-1) n' l1 k))∧Q0 (w'.heap[w.heap.size]? = some (.cells #[.slice A0 m c0,.slice A1 l1.length c1,.slice A2 l2.length c2,.int .i64 a3,.int .i64 a4] 111 (0,0)))∧Q0 (Is6 w' (w.heap.size+1) n')∧Q0 (Is6 w' (w.heap.size+1+1) [])∧Q0 (Below w.heap.size w w'))
   case atStart=>exact ⟨_,0,_,rfl,rfl,⟨rfl⟩,⟨Nat.zero_add _⟩,⟨Kd.R_nil _ _ _ _ _⟩,I14,BR,I5,I9,HB⟩
   case round =>
    clear I14 BR I5 I9 HB;obtain ⟨x,k,sv,rfl,rfl,HX,HD,HS,I14,BR,I5,I9,HB⟩:=hrel;have b0:wr.cell? ⟨w.heap.size,0,none⟩=some (.slice A0 m c0):=(Q8 BR.out 0).trans rfl;have b1:wr.cell? ⟨w.heap.size,1,none⟩=some (.slice A1 l1.length c1):=(Q8 BR.out 1).trans rfl;have b2:wr.cell? ⟨w.heap.size,2,none⟩=some (.slice A2 l2.length c2):=(Q8 BR.out 2).trans rfl
    by_cases hk:x<(m:Int)
    ·
     have hx0:0≤x:=by have:=HX.out;omega
     have hx6:x<6:=by omega
     have h5:=I5.out.celli x hx0 hx6;obtain ⟨ad2,ea2,hw2⟩:=Kd.at_int HR2.out x hx0 (by have:=HE2.out;omega);subst ea2;have L2:=Q0.mk (World.block_lt_of_cell? w _ hw2);have hA2:=(HB.out.cell L2.out).trans hw2;have HW2:=Q0.mk hw2;clear hw2
     have hl2:x<(l2.length:Int):=by have:=HE2.out;omega
     obtain ⟨p,hp⟩:∃ p,p=wrap64 (rd n' x*rd l2 x):=⟨_,rfl⟩
     have hpw:IntKind.i64.wrap (rd n' x*rd l2 x)=p:=by rw [hp,Qp]
     have HP:=Q0.mk hp;clear hp
     go_wp2
     have hne5:=Kd.R_ne (Kd.R_drew HS.out) (Q6 I5.out) (by decide);have hneR:=Kd.R_ne (Kd.R_drew HS.out) (Q6 BR.out) (by decide)
     go_region_held3 (fun w'=>w'.cell? ⟨w.heap.size+1,x.toNat,none⟩=some (.int .i64 (rd n' x))∧w'.cell? ⟨w.heap.size,2,none⟩=some (.slice (some ad2) l2.length c2)∧w'.cell? (ad2.add x.toNat)=some (.int .i64 (rd l2 x)))
      (first|go_keep|exact ⟨(Is6.celli (JP (Q6 I5.out) hg1 hne5) x hx0 hx6),((Q8 (JP (Q6 BR.out) hg1 hneR) 2).trans rfl),((HB1.cell L2.out).trans HW2.out)⟩)
      ((refine Kd.R_append_step (Kd.int .i64) (w0:=w) (W:=wr.drew) w.heap.size ?hw (.tmp 49) (.tmp 60) 37 3 (.int .i64 0) 8 ?ho Try.underlying37 Xa rfl ?n1 ?n2 sv (KN n' l2 k) p [.int .i64 p] (fun _=>True) (fun _=>False) ?e1 ?e2 rfl (fun _ h=>h.elim) (fun _ _=>trivial) (Kd.R_drew HS.out) (Yl HB.out) ?c1 ?c2 ?_;(case hw=>rfl);(case ho=>rfl);(case n1=>decide);(case n2=>decide);(case e1=>rfl);(case e2=>rfl);(case c1=>exact Qe (Yl HB.out));(case c2=>have:=HD.out;simp [KN];omega);intro v1 w1 HS1 HB1 hg1 qgJ))
     have J5:=Q0.mk (show Is6 w1 (w.heap.size+1) n' from JP (Q6 I5.out) hg1 (Kd.R_ne (Kd.R_drew HS.out) (Q6 I5.out) (by decide)));have J9:=Q0.mk (show Is6 w1 (w.heap.size+1+1) [] from JP (Q6 I9.out) hg1 (Kd.R_ne (Kd.R_drew HS.out) (Q6 I9.out) (by decide)));have J14:=Q0.mk (show Is6 w1 W1.heap.size _ from JP (Q6 I14.out) hg1 (Kd.R_ne (Kd.R_drew HS.out) (Q6 I14.out) (by decide)));have JR:=Q0.mk (JP (Q6 BR.out) hg1 (Kd.R_ne (Kd.R_drew HS.out) (Q6 BR.out) (by decide)));have JS:=Q0.mk HS1;have JB:=Q0.mk HB1;clear I5 I9 I14 BR HS HB HS1 HB1 hg1 qgJ b0 b1 b2 h5 hA2 hl2 hpw;obtain ⟨y,hy⟩:∃ y,y=UO ((m:Int)-1) n' l1 k:=⟨_,rfl⟩;have HY:=Q0.mk hy;rw [← hy] at J14;clear hy;have d1:w1.cell? ⟨w.heap.size,1,none⟩=some (.slice A1 l1.length c1):=(Q8 JR.out 1).trans rfl;have h5:=J5.out.celli x hx0 hx6;obtain ⟨ad1,ea1,hw1⟩:=Kd.at_int HR1.out x hx0 (by have:=HE1.out;omega);subst ea1;have L1:=Q0.mk (World.block_lt_of_cell? w _ hw1);have hA1:=(JB.out.cell L1.out).trans hw1;have HW1:=Q0.mk hw1;clear hw1
     have hl1:x<(l1.length:Int):=by have:=HE1.out;omega
     obtain ⟨jx,hjx⟩:∃ jx,(if (m:Int)-1<x+1 then (m:Int)-1 else x+1)=jx:=⟨_,rfl⟩;have HJX:=Q0.mk (show mn (x+1) ((m:Int)-1)=jx from hjx)
     have hj0:0≤jx:=by rw [← hjx];split<;>omega
     have hj6:jx<6:=by rw [← hjx];split<;>omega
     have h14:=J14.out.celli jx hj0 hj6;have f14:=J14.out.frz jx.toNat
     have hwx:IntKind.i64.wrap (x+1)=x+1:=by rw [Qp];unfold wrap64;omega
     obtain ⟨q1,hq1⟩:∃ q1,IntKind.i64.wrap (rd n' x*rd l1 x)=q1:=⟨_,rfl⟩;obtain ⟨q2,hq2⟩:∃ q2,IntKind.i64.wrap (Int.tdiv q1 1000)=q2:=⟨_,rfl⟩;obtain ⟨q3,hq3⟩:∃ q3,IntKind.i64.wrap (rd y jx+q2)=q3:=⟨_,rfl⟩;have HQ:=Q0.mk (show q3=wrap64 (rd y jx+wrap64 (Int.tdiv (wrap64 (rd n' x*rd l1 x)) 1000)) by rw [← hq3,← hq2,← hq1,Qp,Qp,Qp])
     go_wp2
     go_still_tail 19,(by kernel_rfl)
     change wpList _ _ _ _ _ w1.drew
     go_wp2
     cases gk with
     | zero=>exact absurd hk (by have:=HX.out;have:=HD.out;omega)
     | succ d =>
      have hxk:x=(k:Int):=HX.out
      go_roundg d
      case measure=>omega
      case rel =>
       have hgt:w.heap.size<W1.heap.size:=by omega
       refine ⟨_,k+1,_,rfl,rfl,⟨by rw [hxk];rfl⟩,⟨by have:=HD.out;omega⟩,⟨?_⟩,⟨?_⟩,⟨Qm (Q6 JR.out) (Nat.ne_of_lt hgt) _⟩,⟨J5.out.drew.far (Nat.ne_of_lt (by show w.heap.size+1<W1.heap.size;omega)) _⟩,⟨J9.out.drew.far (Nat.ne_of_lt hlt) _⟩,⟨Q7 (Yl JB.out) (Nat.le_of_lt hgt)⟩⟩
       ·
        have e:KN n' l2 (k+1)=KN n' l2 k++[p]:=by
         rw [HP.out,hxk];simp [KN,List.range_succ]
        rw [e]
        exact qkA (Kd.R_drew JS.out) J14.out.drew _ _
       ·
        have e:UO ((m:Int)-1) n' l1 (k+1)=y.set jx.toNat q3:=by
         rw [UO,← HY.out,← hxk,HJX.out,HQ.out]
        rw [e]
        exact J14.out.drew.seti (by rw [HY.out];exact qaZ _ _ _ k) jx hj0 hj6 q3
    ·
     have hkm:k=m:=by have:=HX.out;have:=HD.out;omega
     subst hkm;obtain ⟨y,hy⟩:∃ y,y=UO ((k:Int)-1) n' l1 k:=⟨_,rfl⟩;have HY:=Q0.mk hy;rw [← hy] at I14;clear hy;obtain ⟨i0,i1,i2,i3,i4,i5⟩:=I14.out.cells;have f0:=I14.out.frz 0;obtain ⟨z,hz⟩:∃ z,wrap64 (rd y 0+rec_)=z:=⟨_,rfl⟩;obtain ⟨As,cs,hsv⟩:=Kd.R_slice HS.out;subst hsv;have hcs:=(Kd.R_reads' HS.out).2.1;have HSL:=Q0.mk (show (KN n' l2 k).length=k by simp [KN])
     have hgt:w.heap.size<W1.heap.size:=by omega
     have Y14:=Q0.mk (show Is6 (wr.setCell ⟨W1.heap.size,0,none⟩ (.int .i64 z)) W1.heap.size (y.set 0 z) from I14.out.set (by rw [HY.out];exact qaZ _ _ _ k) 0 (by omega) z);have YS:=Q0.mk (qkA HS.out I14.out 0 (.int .i64 z));have Y9:=Q0.mk (I9.out.far (p:=⟨W1.heap.size,0,none⟩) (Nat.ne_of_lt hlt) (.int .i64 z));have YB:=Q0.mk (Q7 (j:=0) (v:=.int .i64 z) HB.out (Nat.le_of_lt hgt))
     go_wp2
     generalize wr.setCell ⟨W1.heap.size,0,none⟩ (.int .i64 z)=w2 at Y14 YS Y9 YB ⊢
     clear i0 i1 i2 i3 i4 i5 f0 b0 b1 b2;obtain ⟨i0,i1,i2,i3,i4,i5⟩:=Y14.out.cells;obtain ⟨z0,z1,z2,z3,z4,z5⟩:=Y9.out.cells;obtain ⟨f0,f1,f2,f3,f4,f5⟩:=Y9.out.frozen
     go_region_with (go_at_call 97;refine (QS.calls ((KN n' l2 k).length+1) As cs (KN n' l2 k) (sumW (KN n' l2 k)) _ ?hr hcs ?hs).mono ?_;(case hr=>exact Kd.C_below (Kd.R_reads' YS.out).2.2 (by repeat (first|exact Below.refl _ _|apply Yl|apply Q1)));(case hs=>exact qek _ (by rw [HSL.out];omega));rintro e w' ⟨rfl,⟨nq,rfl⟩⟩)
     all_goals
      go_wp2
      refine bodyPost_ret (qho rfl _ _ (w.heap.size+1+1) 115 (ar6 (y.set 0 z)).toArray (0,0) _ rfl (Is6.put6 (Y9.out.drewN _) (y.set 0 z)) Try.underlying115 rfl (by kernel_rfl)) rfl ?_;refine ⟨?_,?_⟩
      ·
       show Ending.returned (.tuple #[.int .i64 (sumW (KN n' l2 k)),.agg (ar6 (y.set 0 z)).toArray])=_
       rw [HRn.out,← HY.out,hz]
      ·
       have h1:w.heap.size≤w.heap.size+1+1:=by omega
       exact Q7 (Q7 (Q7 (Q7 (Q7 (Q7 (Q1 YB.out _) h1) h1) h1) h1) h1) h1
def qcN (m:Nat) (mesh:Int) (keep spawn n:List Int) (take rec_:Int):Int × List Int :=
 (sumW (KN (OM mesh m n take).1 spawn m),(UO ((m:Int)-1) (OM mesh m n take).1 keep m).set 0 (wrap64 (rd (UO ((m:Int)-1) (OM mesh m n take).1 keep m) 0+rec_)))
def okR (l0 l1 l2:List Int) (a4:Int):Prop:=1≤l0.length∧l0.length≤6∧l1.length=l0.length∧l2.length=l0.length∧0≤a4∧a4<(l0.length:Int)
instance (l0 l1 l2:List Int) (a4:Int):Decidable (okR l0 l1 l2 a4):=by unfold okR;infer_instance
def Zg.f (Qb Qk Qd:List Int) (Yb Ya qcj qck qcl qcm qcn qco a2 a3:Int):Option (Int × Int × Int × Int × Int × Int × Int) :=
 if okR Qb Qk Qd Ya then
  some ((qcN Qb.length Ya Qk Qd [qcj,qck,qcl,qcm,qcn,qco] a2 a3).1,
   rd (qcN Qb.length Ya Qk Qd [qcj,qck,qcl,qcm,qcn,qco] a2 a3).2 0,rd (qcN Qb.length Ya Qk Qd [qcj,qck,qcl,qcm,qcn,qco] a2 a3).2 1,
   rd (qcN Qb.length Ya Qk Qd [qcj,qck,qcl,qcm,qcn,qco] a2 a3).2 2,rd (qcN Qb.length Ya Qk Qd [qcj,qck,qcl,qcm,qcn,qco] a2 a3).2 3,
   rd (qcN Qb.length Ya Qk Qd [qcj,qck,qcl,qcm,qcn,qco] a2 a3).2 4,rd (qcN Qb.length Ya Qk Qd [qcj,qck,qcl,qcm,qcn,qco] a2 a3).2 5)
 else none
theorem Zg.calls (Y5:Option Addr) (QK:Nat) (Qb:List Int) (Y2:Option Addr) (QM:Nat) (Qk:List Int) (Y7:Option Addr) (QN:Nat) (Qd:List Int) (Yb Ya qcj qck qcl qcm qcn qco a2 a3 r1 r2 r3 r4 r5 r6 r7:Int) (w:World)
  (Gy:Kd.C (Kd.int .i64) w Y5 Qb.length Qb) (GI:Qb.length≤QK) (Gz:Kd.C (Kd.int .i64) w Y2 Qk.length Qk) (GJ:Qk.length≤QM) (GA:Kd.C (Kd.int .i64) w Y7 Qd.length Qd) (GK:Qd.length≤QN)
  (h:Zg.f Qb Qk Qd Yb Ya qcj qck qcl qcm qcn qco a2 a3=some (r1,r2,r3,r4,r5,r6,r7)) :
  Calls Try.prog 77 #[.agg #[.slice Y5 Qb.length QK,.slice Y2 Qk.length QM,.slice Y7 Qd.length QN,.int .i64 Yb,.int .i64 Ya],.agg #[.int .i64 qcj,.int .i64 qck,.int .i64 qcl,.int .i64 qcm,.int .i64 qcn,.int .i64 qco],.int .i64 a2,.int .i64 a3] w fun e w' =>
   e = .returned (.tuple #[.int .i64 r1,.agg #[.int .i64 r2,.int .i64 r3,.int .i64 r4,.int .i64 r5,.int .i64 r6,.int .i64 r7]])∧Below w.heap.size w w':=by
 unfold Zg.f at h
 by_cases hv:okR Qb Qk Qd Ya
 ·
  rw [if_pos hv] at h
  obtain ⟨h1,h2,h3,h4,h5,h6⟩:=hv
  injection h with h
  simp only [Prod.mk.injEq] at h
  obtain ⟨rfl,rfl,rfl,rfl,rfl,rfl,rfl⟩:=h
  exact Zg.calls6 Y5 QK Qb.length Y2 QM Qk Y7 QN Qd Yb Ya [qcj,qck,qcl,qcm,qcn,qco] a2 a3 w rfl h1 h2 h3 h4 h5 h6 Gz GA
 ·
  rw [if_neg hv] at h
  exact absurd h (by simp)
end
section
attribute [local go_sem] YF YH YY YZ Yq Yr YG YI
mutual
def QH.j0:Nat→List Int→List Int→Bool→List Int→List Int→List Int→Int→Int→Option (List Int × Int)
 | 0,_,_,_,_,_,_,_,_=>none
 | k+1,x1,x2,x9,Ke,Kf,Kg,Kh,Ki=>QH.l0 k x1 x2 x9 0 Ke Kf Kg Kh Ki
def QH.l0:Nat→List Int→List Int→Bool→Int→List Int→List Int→List Int→Int→Int→Option (List Int × Int)
 | 0,_,_,_,_,_,_,_,_,_=>none
 | k+1,x1,x2,x9,x10,Ke,Kf,Kg,Kh,Ki=>if x9=true then (QH.j2 k x1 x2 x9 x10 (decide (x10<(x1.length:Int))) Ke Kf Kg Kh Ki) else (QH.j2 k x1 x2 x9 x10 false Ke Kf Kg Kh Ki)
def QH.j2:Nat→List Int→List Int→Bool→Int→Bool→List Int→List Int→List Int→Int→Int→Option (List Int × Int)
 | 0,_,_,_,_,_,_,_,_,_,_=>none
 | k+1,x1,x2,x9,x10,x39,Ke,Kf,Kg,Kh,Ki=>if x39=true then (if 0≤x10 then (if x10<(x1.length:Int) then ((Qj.f (rd x1 x10) 0 100000000).bind fun t159=>(if t159=true then (if x10<(x2.length:Int) then ((Qj.f (rd x2 x10) 0 100000).bind fun qcD=>(QH.l0 k x1 x2 qcD (wrap64 (x10+1)) Ke Kf Kg Kh Ki)) else (none)) else (QH.l0 k x1 x2 false (wrap64 (x10+1)) Ke Kf Kg Kh Ki))) else (none)) else (none)) else (if x9=true then ((Z9.f Ke Kf Kg Kh Ki).bind fun Ku=>(QH.l1 k x1 x2 ([]:List Int) (x1.length:Int) 0 Ke Kf Kg Kh Ki Ku.1 Ku.2.1 Ku.2.2.1 Ku.2.2.2.1 Ku.2.2.2.2.1 Ku.2.2.2.2.2)) else (some (([]:List Int),92)))
def QH.l1:Nat→List Int→List Int→List Int→Int→Int→List Int→List Int→List Int→Int→Int→Int→Int→Int→Int→Int→Int→Option (List Int × Int)
 | 0,_,_,_,_,_,_,_,_,_,_,_,_,_,_,_,_=>none
 | k+1,x1,x2,x13,x59,x60,Ke,Kf,Kg,Kh,Ki,qog,qoh,qoi,qoj,qok,qol=>if x60<x59 then (if 0≤x60 then (if x60<(x1.length:Int) then (if x60<(x2.length:Int) then ((Zg.f Ke Kf Kg Kh Ki qog qoh qoi qoj qok qol (rd x1 x60) (rd x2 x60)).bind fun qcq=>(if x13.length<17592186044416 then (QH.l1 k x1 x2 (x13++[qcq.1]) x59 (wrap64 (x60+1)) Ke Kf Kg Kh Ki qcq.2.1 qcq.2.2.1 qcq.2.2.2.1 qcq.2.2.2.2.1 qcq.2.2.2.2.2.1 qcq.2.2.2.2.2.2) else (none))) else (none)) else (none)) else (none)) else (if 0≤(x13.length:Int) then (if (x13.length:Int)≤(x13.length:Int) then (some ((x13.take ((x13.length:Int):Int).toNat),0)) else (none)) else (none))
end
def QH.f (k:Nat) (Qb:List Int) (Qk:List Int) (Qd:List Int) (Yb:Int) (Ya:Int) (l1:List Int) (l2:List Int):Option (List Int × Int):=(Qn.f k Qb Qk Qd Yb Ya).bind fun t156=>(if t156=true then ((Qj.f (l1.length:Int) 1 10).bind fun t157=>(if t157=true then (QH.j0 k l1 l2 ((l2.length:Int)==(l1.length:Int)) Qb Qk Qd Yb Ya) else (QH.j0 k l1 l2 false Qb Qk Qd Yb Ya))) else (QH.j0 k l1 l2 false Qb Qk Qd Yb Ya))
def QH.T15:Bool × List (List Nat × List Nat):=(true,[([],[]),([],[]),([],[]),([],[]),([],[]),([3,4],[3,4]),([5],[5]),([],[]),([],[]),([7,8],[7,8]),([9],[9]),([0,1,2,6,10],[0,1,2,6,10]),([11],[11]),([12],[12]),([12],[12]),([],[]),([13,11,0,1,2,3,4,5,6,7,8,9,10,11,12,13,15],[13]),([15,14,16,0,1,2,3,4,5,6,7,8,9,10,11,12,13,14,15,16],[14,15])])
def QH.B15:List Nat:=[0,0,0,0,0,24,56,0,0,384,896,2047,4095,8191,8191,0,49151,131071]
theorem QH.tab15:rtab .any (qcy Try.f25 15)=QH.T15:=by kernel_rfl
theorem QH.bits15:KL QH.T15.2 QH.B15=true:=by kernel_rfl
set_option maxHeartbeats 8000000 in
set_option maxRecDepth 100000 in
theorem QH.calls (k:Nat) (Y5:Option Addr) (QK:Nat) (Qb:List Int) (Y2:Option Addr) (QM:Nat) (Qk:List Int) (Y7:Option Addr) (QN:Nat) (Qd:List Int) (Yb:Int) (Ya:Int) (A1:Option Addr) (c1:Nat) (l1:List Int) (A2:Option Addr) (c2:Nat) (l2:List Int) (r1:List Int) (r2:Int) (w:World) (Gy:Kd.C (Kd.int .i64) w Y5 Qb.length Qb) (GI:Qb.length≤QK) (Gz:Kd.C (Kd.int .i64) w Y2 Qk.length Qk) (GJ:Qk.length≤QM) (GA:Kd.C (Kd.int .i64) w Y7 Qd.length Qd) (GK:Qd.length≤QN) (hr1:Kd.C (Kd.int .i64) w A1 l1.length l1) (hc1:l1.length≤c1) (hr2:Kd.C (Kd.int .i64) w A2 l2.length l2) (hc2:l2.length≤c2) (h:QH.f k Qb Qk Qd Yb Ya l1 l2=some (r1,r2)) :
  Calls Try.prog 25 #[.agg #[.slice Y5 Qb.length QK,.slice Y2 Qk.length QM,.slice Y7 Qd.length QN,.int .i64 Yb,.int .i64 Ya],.slice A1 l1.length c1,.slice A2 l2.length c2] w fun e w' => ∃ v0_:Value,e = .returned (.tuple #[v0_,.int .i64 r2])∧Kd.V (Kd.int .i64) 3 w' w.heap.size (fun k_=>(w.heap.size≤k_)) v0_ r1∧Below w.heap.size w w':=by
 have qnC:=Try.underlying39
 have qlk:=Try.underlying111
 have qtK:=Try.underlying115
 have Jt:=Q0.mk Gy
 have JU:=Q0.mk GI
 clear Gy GI
 have JI:=Q0.mk Gz
 have JV:=Q0.mk GJ
 clear Gz GJ
 have JJ:=Q0.mk GA
 have JW:=Q0.mk GK
 clear GA GK
 have HR1:=Q0.mk hr1
 have HC1:=Q0.mk hc1
 clear hr1 hc1
 have HR2:=Q0.mk hr2
 have HC2:=Q0.mk hc2
 clear hr2 hc2
 have HB:=Q0.mk (Below.refl w.heap.size w)
 have H:((Qn.f k Qb Qk Qd Yb Ya).bind fun t156=>(if t156=true then ((Qj.f (l1.length:Int) 1 10).bind fun t157=>(if t157=true then (QH.j0 k l1 l2 ((l2.length:Int)==(l1.length:Int)) Qb Qk Qd Yb Ya) else (QH.j0 k l1 l2 false Qb Qk Qd Yb Ya))) else (QH.j0 k l1 l2 false Qb Qk Qd Yb Ya)))=some (r1,r2):=h
 clear h
 have HC4:=Q0.mk H
 clear H
 go_enter Try.func25,Try.ntmps25
 go_upto_region 2 with (first|((with_reducible refine QW (N:=3) rfl ?_);(try (refine Ga (by rfl) ?_;dsimp only));refine Ym ?hg (N:=3) ?hd (cs:=#[.slice Y5 Qb.length QK,.slice Y2 Qk.length QM,.slice Y7 Qd.length QN,.int .i64 Yb,.int .i64 Ya]) (t:=39) ?hr ?_;(case hd=>rfl);(case hg=>rfl);(case hr=>first|(go_simp;done)|(go_simp;rfl));intro ZQ hg w5 hbox hb;have n0_:=Q0.mk (Qi (by repeat (first|(with_reducible first|exact HB.out|apply Q2|apply Q1|apply Q4)|exact HB.out)) hb);have n1_:=Q0.mk (hbox);have n2_:=Q0.mk ((by rw [hg];exact (Qe (by repeat (first|(with_reducible first|exact HB.out|apply Q2|apply Q1|apply Q4)|exact HB.out))):w.heap.size≤ZQ));have n3_:=n2_;clear HB;have HB:=n0_;have YL:=n1_;have qBF:=n2_;have ZN:=n3_;clear n0_ n1_ n2_ n3_ hb hbox hg;have Xg:w5.cell? ⟨ZQ,0,none⟩=some (.slice Y5 Qb.length QK):=(Q8 YL.out 0).trans rfl;have Xh:w5.cell? ⟨ZQ,1,none⟩=some (.slice Y2 Qk.length QM):=(Q8 YL.out 1).trans rfl;have qaS:w5.cell? ⟨ZQ,2,none⟩=some (.slice Y7 Qd.length QN):=(Q8 YL.out 2).trans rfl;have qdI:w5.cell? ⟨ZQ,3,none⟩=some (.int .i64 Yb):=(Q8 YL.out 3).trans rfl;have qdJ:w5.cell? ⟨ZQ,4,none⟩=some (.int .i64 Ya):=(Q8 YL.out 4).trans rfl;have Xi:=Qa YL.out 0;have Xj:=Qa YL.out 1;have qaT:=Qa YL.out 2;have qdW:=Qa YL.out 3;have qdX:=Qa YL.out 4)|((with_reducible refine QW (N:=8) rfl ?_);(try (refine Ga (by rfl) ?_;dsimp only));refine Ym ?hg (N:=8) ?hd (cs:=#[.slice none 0 0,.slice none 0 0,.slice none 0 0,.int .i64 0,.int .i64 0]) (t:=111) ?hr ?_;(case hd=>rfl);(case hg=>rfl);(case hr=>first|(go_simp;done)|(go_simp;rfl));intro YO hg w7 hbox hb;have n0_:=Q0.mk (Qf (g:=ZQ) (by (with_reducible repeat (first|refine Q5 ?_ _|refine Q6 ?_|refine Q3 ?_ _));exact YL.out) hb);have n1_:=Q0.mk (Qi (by repeat (first|(with_reducible first|exact HB.out|apply Q2|apply Q1|apply Q4|refine Q7 ?_ ZN.out)|exact HB.out)) hb);have n2_:=Q0.mk (hbox);have n3_:=Q0.mk ((by rw [hg];exact (Qe (by repeat (first|(with_reducible first|exact HB.out|apply Q2|apply Q1|apply Q4|refine Q7 ?_ ZN.out)|exact HB.out))):w.heap.size≤YO));have n4_:=n3_;have n5_:=Q0.mk ((by rw [hg];exact Nat.ne_of_lt (QO (g:=ZQ) (by (with_reducible repeat (first|refine Q5 ?_ _|refine Q6 ?_|refine Q3 ?_ _));exact YL.out)):ZQ≠YO));have n6_:=Q0.mk (n5_.out.symm);clear YL HB;have YL:=n0_;have HB:=n1_;have Y0:=n2_;have qBG:=n3_;have ZW:=n4_;have ZC:=n5_;have UF:=n6_;clear n0_ n1_ n2_ n3_ n4_ n5_ n6_ hb hbox hg;have qEv:=UF.out;have qEw:=ZC.out;have Kk:w7.cell? ⟨YO,0,none⟩=some (.slice none 0 0):=(Q8 Y0.out 0).trans rfl;have Kl:w7.cell? ⟨YO,1,none⟩=some (.slice none 0 0):=(Q8 Y0.out 1).trans rfl;have Km:w7.cell? ⟨YO,2,none⟩=some (.slice none 0 0):=(Q8 Y0.out 2).trans rfl;have qdM:w7.cell? ⟨YO,3,none⟩=some (.int .i64 0):=(Q8 Y0.out 3).trans rfl;have qdN:w7.cell? ⟨YO,4,none⟩=some (.int .i64 0):=(Q8 Y0.out 4).trans rfl;have Ko:=Qa Y0.out 0;have Kp:=Qa Y0.out 1;have Kq:=Qa Y0.out 2;have qd0:=Qa Y0.out 3;have qd1:=Qa Y0.out 4))
 (try simp only [Act.put,List.setIfInBounds_toArray,List.set_cons_zero,List.set_cons_succ])
 go_cut [9] (fun v9 wc => ∃ (kq:Nat) (qoo:Bool),v9 = .bool qoo∧Q0 (QH.j0 kq l1 l2 qoo Qb Qk Qd Yb Ya=some (r1,r2))∧Q0 (kq≤k)∧Q0 (wc.heap[ZQ]? = some (.cells #[(.slice Y5 Qb.length QK),(.slice Y2 Qk.length QM),(.slice Y7 Qd.length QN),.int .i64 Yb,.int .i64 Ya] 39 (0,0)))∧Q0 (wc.heap[YO]? = some (.cells #[(.slice Y5 Qb.length QK),(.slice Y2 Qk.length QM),(.slice Y7 Qd.length QN),.int .i64 Yb,.int .i64 Ya] 111 (0,0)))∧Q0 (Below w.heap.size w wc))
 case first =>
  have H:=HC4.out
  clear HC4
  replace H:=Option.bind_eq_some_iff.mp H
  obtain ⟨t156,qkd,H⟩:=H
  replace H:(if t156=true then ((Qj.f (l1.length:Int) 1 10).bind fun t157=>(if t157=true then (QH.j0 k l1 l2 ((l2.length:Int)==(l1.length:Int)) Qb Qk Qd Yb Ya) else (QH.j0 k l1 l2 false Qb Qk Qd Yb Ya))) else (QH.j0 k l1 l2 false Qb Qk Qd Yb Ya))=some (r1,r2):=H
  have A10:=Q0.mk qkd
  clear qkd
  by_cases c11:t156=true
  ·
   subst c11
   have H1:((Qj.f (l1.length:Int) 1 10).bind fun t157=>(if t157=true then (QH.j0 k l1 l2 ((l2.length:Int)==(l1.length:Int)) Qb Qk Qd Yb Ya) else (QH.j0 k l1 l2 false Qb Qk Qd Yb Ya)))=some (r1,r2):=by rw [if_pos rfl] at H;exact H
   clear H
   have H:=H1
   clear H1
   replace H:=Option.bind_eq_some_iff.mp H
   obtain ⟨t157,qcc,H⟩:=H
   replace H:(if t157=true then (QH.j0 k l1 l2 ((l2.length:Int)==(l1.length:Int)) Qb Qk Qd Yb Ya) else (QH.j0 k l1 l2 false Qb Qk Qd Yb Ya))=some (r1,r2):=H
   have A12:=Q0.mk qcc
   clear qcc
   by_cases c13:t157=true
   ·
    subst c13
    have H1:(QH.j0 k l1 l2 ((l2.length:Int)==(l1.length:Int)) Qb Qk Qd Yb Ya)=some (r1,r2):=by rw [if_pos rfl] at H;exact H
    clear H;have H:=H1;clear H1;have H':=Q0.mk H;clear H;have qCt:=UF.out;have qC5:=ZC.out;have Og:w7.cell? ⟨YO,0,none⟩=some (.slice none 0 0):=(Q8 Y0.out 0).trans rfl;have Oh:w7.cell? ⟨YO,1,none⟩=some (.slice none 0 0):=(Q8 Y0.out 1).trans rfl;have OZ:w7.cell? ⟨YO,2,none⟩=some (.slice none 0 0):=(Q8 Y0.out 2).trans rfl;have U0:w7.cell? ⟨YO,3,none⟩=some (.int .i64 0):=(Q8 Y0.out 3).trans rfl;have U1:w7.cell? ⟨YO,4,none⟩=some (.int .i64 0):=(Q8 Y0.out 4).trans rfl;have Om:=Qa Y0.out 0;have On:=Qa Y0.out 1;have Ub:=Qa Y0.out 2;have Uc:=Qa Y0.out 3;have Ud:=Qa Y0.out 4
    go_wp2_with (first|((with_reducible refine Qz (f:=76) rfl ?_);refine Yo (some 20) rfl rfl Try.func76 (by kernel_rfl) rfl #[.agg #[.slice Y5 Qb.length QK,.slice Y2 Qk.length QM,.slice Y7 Qd.length QN,.int .i64 Yb,.int .i64 Ya]] rfl (by (try simp only [List.map_toArray,List.map_cons,List.map_nil]);first|done|rfl|(simp only [List.length_drop,List.length_take];rfl)) ?_;(with_reducible refine (Qn.calls k _ _ Qb _ _ Qk _ _ Qd Yb Ya true _ ?side1 ?side2 ?side3 ?side4 ?side5 ?side6 A10.out).mono ?_);(case side1=>exact Kd.C_below Jt.out (by repeat (first|(with_reducible first|exact HB.out|apply Q2|apply Q1|apply Q4|refine Q7 ?_ ZN.out|refine Q7 ?_ ZW.out)|exact HB.out)));(case side2=>exact JU.out);(case side3=>exact Kd.C_below JI.out (by repeat (first|(with_reducible first|exact HB.out|apply Q2|apply Q1|apply Q4|refine Q7 ?_ ZN.out|refine Q7 ?_ ZW.out)|exact HB.out)));(case side4=>exact JV.out);(case side5=>exact Kd.C_below JJ.out (by repeat (first|(with_reducible first|exact HB.out|apply Q2|apply Q1|apply Q4|refine Q7 ?_ ZN.out|refine Q7 ?_ ZW.out)|exact HB.out)));(case side6=>exact JW.out);rintro e w16 ⟨rfl,hb⟩;refine ⟨_,rfl,?_⟩;have n0_:=Q0.mk (Qf (g:=ZQ) (o:=.cells #[.slice Y5 Qb.length QK,.slice Y2 Qk.length QM,.slice Y7 Qd.length QN,.int .i64 Yb,.int .i64 Ya] 39 (0,0)) (by (with_reducible repeat (first|refine Q5 ?_ _|refine Q6 ?_|refine Q3 ?_ _));refine Qm ?_ ZC.out _;(with_reducible repeat (first|refine Q5 ?_ _|refine Q6 ?_|refine Q3 ?_ _));refine Qm ?_ ZC.out _;(with_reducible repeat (first|refine Q5 ?_ _|refine Q6 ?_|refine Q3 ?_ _));refine Qm ?_ ZC.out _;(with_reducible repeat (first|refine Q5 ?_ _|refine Q6 ?_|refine Q3 ?_ _));refine Qm ?_ ZC.out _;(with_reducible repeat (first|refine Q5 ?_ _|refine Q6 ?_|refine Q3 ?_ _));refine Qm ?_ ZC.out _;(with_reducible repeat (first|refine Q5 ?_ _|refine Q6 ?_|refine Q3 ?_ _));exact YL.out) hb);have n1_:=Q0.mk (Qf (g:=YO) (o:=.cells #[.slice Y5 Qb.length QK,.slice Y2 Qk.length QM,.slice Y7 Qd.length QN,.int .i64 Yb,.int .i64 Ya] 111 (0,0)) (by (with_reducible repeat (first|refine Q5 ?_ _|refine Q6 ?_|refine Q3 ?_ _));refine QC (cs:=#[.slice Y5 Qb.length QK,.slice Y2 Qk.length QM,.slice Y7 Qd.length QN,.int .i64 Yb,.int .i64 0]) ?_ 4 _ rfl;(with_reducible repeat (first|refine Q5 ?_ _|refine Q6 ?_|refine Q3 ?_ _));refine QC (cs:=#[.slice Y5 Qb.length QK,.slice Y2 Qk.length QM,.slice Y7 Qd.length QN,.int .i64 0,.int .i64 0]) ?_ 3 _ rfl;(with_reducible repeat (first|refine Q5 ?_ _|refine Q6 ?_|refine Q3 ?_ _));refine QC (cs:=#[.slice Y5 Qb.length QK,.slice Y2 Qk.length QM,.slice none 0 0,.int .i64 0,.int .i64 0]) ?_ 2 _ rfl;(with_reducible repeat (first|refine Q5 ?_ _|refine Q6 ?_|refine Q3 ?_ _));refine QC (cs:=#[.slice Y5 Qb.length QK,.slice none 0 0,.slice none 0 0,.int .i64 0,.int .i64 0]) ?_ 1 _ rfl;(with_reducible repeat (first|refine Q5 ?_ _|refine Q6 ?_|refine Q3 ?_ _));refine QC (cs:=#[.slice none 0 0,.slice none 0 0,.slice none 0 0,.int .i64 0,.int .i64 0]) ?_ 0 _ rfl;(with_reducible repeat (first|refine Q5 ?_ _|refine Q6 ?_|refine Q3 ?_ _));exact Y0.out) hb);have n2_:=Q0.mk (Qi (by repeat (first|(with_reducible first|exact HB.out|apply Q2|apply Q1|apply Q4|refine Q7 ?_ ZN.out|refine Q7 ?_ ZW.out)|exact HB.out)) hb);clear YL Y0 HB;have YL:=n0_;have Y0:=n1_;have HB:=n2_;clear n0_ n1_ n2_;(try clear hb);(try clear hb2);(try clear hk);(try clear hi))|(go_at_call 65;(with_reducible refine (Qj.calls (l1.length:Int) 1 10 true _ A12.out).mono ?_);rintro e w' ⟨rfl,⟨nd,rfl⟩⟩))
    go_meet
    case rel=>exact ⟨_,(((l2.length:Int)==(l1.length:Int))),(by first|rfl|(simp;done)|(simp [*];done)),H',⟨by first|omega|exact Nat.le_refl _⟩,⟨by (with_reducible repeat (first|refine Q5 ?_ _|refine Q6 ?_|refine Q3 ?_ _));exact YL.out⟩,⟨by (with_reducible repeat (first|refine Q5 ?_ _|refine Q6 ?_|refine Q3 ?_ _));exact Y0.out⟩,⟨by repeat (first|(with_reducible first|exact HB.out|apply Q2|apply Q1|apply Q4|refine Q7 ?_ ZN.out|refine Q7 ?_ ZW.out)|exact HB.out)⟩⟩
   replace c13:=Bool.eq_false_iff.mpr c13
   subst c13
   have H1:(QH.j0 k l1 l2 false Qb Qk Qd Yb Ya)=some (r1,r2):=by rw [if_neg (show ¬ (false=true) by decide)] at H;exact H
   clear H
   have H:=H1
   clear H1
   have H':=Q0.mk H
   clear H
   have qtg:=UF.out
   have qtu:=ZC.out
   have U2:w7.cell? ⟨YO,0,none⟩=some (.slice none 0 0):=(Q8 Y0.out 0).trans rfl
   have U3:w7.cell? ⟨YO,1,none⟩=some (.slice none 0 0):=(Q8 Y0.out 1).trans rfl
   have U4:w7.cell? ⟨YO,2,none⟩=some (.slice none 0 0):=(Q8 Y0.out 2).trans rfl
   have qbB:w7.cell? ⟨YO,3,none⟩=some (.int .i64 0):=(Q8 Y0.out 3).trans rfl
   have qbC:w7.cell? ⟨YO,4,none⟩=some (.int .i64 0):=(Q8 Y0.out 4).trans rfl
   have Ue:=Qa Y0.out 0
   have Uf:=Qa Y0.out 1
   have Ug:=Qa Y0.out 2
   have qbM:=Qa Y0.out 3
   have qbN:=Qa Y0.out 4
   go_wp2_with (first|((with_reducible refine Qz (f:=76) rfl ?_);refine Yo (some 20) rfl rfl Try.func76 (by kernel_rfl) rfl #[.agg #[.slice Y5 Qb.length QK,.slice Y2 Qk.length QM,.slice Y7 Qd.length QN,.int .i64 Yb,.int .i64 Ya]] rfl (by (try simp only [List.map_toArray,List.map_cons,List.map_nil]);first|done|rfl|(simp only [List.length_drop,List.length_take];rfl)) ?_;(with_reducible refine (Qn.calls k _ _ Qb _ _ Qk _ _ Qd Yb Ya true _ ?side1 ?side2 ?side3 ?side4 ?side5 ?side6 A10.out).mono ?_);(case side1=>exact Kd.C_below Jt.out (by repeat (first|(with_reducible first|exact HB.out|apply Q2|apply Q1|apply Q4|refine Q7 ?_ ZN.out|refine Q7 ?_ ZW.out)|exact HB.out)));(case side2=>exact JU.out);(case side3=>exact Kd.C_below JI.out (by repeat (first|(with_reducible first|exact HB.out|apply Q2|apply Q1|apply Q4|refine Q7 ?_ ZN.out|refine Q7 ?_ ZW.out)|exact HB.out)));(case side4=>exact JV.out);(case side5=>exact Kd.C_below JJ.out (by repeat (first|(with_reducible first|exact HB.out|apply Q2|apply Q1|apply Q4|refine Q7 ?_ ZN.out|refine Q7 ?_ ZW.out)|exact HB.out)));(case side6=>exact JW.out);rintro e w19 ⟨rfl,hb⟩;refine ⟨_,rfl,?_⟩;have n0_:=Q0.mk (Qf (g:=ZQ) (o:=.cells #[.slice Y5 Qb.length QK,.slice Y2 Qk.length QM,.slice Y7 Qd.length QN,.int .i64 Yb,.int .i64 Ya] 39 (0,0)) (by (with_reducible repeat (first|refine Q5 ?_ _|refine Q6 ?_|refine Q3 ?_ _));refine Qm ?_ ZC.out _;(with_reducible repeat (first|refine Q5 ?_ _|refine Q6 ?_|refine Q3 ?_ _));refine Qm ?_ ZC.out _;(with_reducible repeat (first|refine Q5 ?_ _|refine Q6 ?_|refine Q3 ?_ _));refine Qm ?_ ZC.out _;(with_reducible repeat (first|refine Q5 ?_ _|refine Q6 ?_|refine Q3 ?_ _));refine Qm ?_ ZC.out _;(with_reducible repeat (first|refine Q5 ?_ _|refine Q6 ?_|refine Q3 ?_ _));refine Qm ?_ ZC.out _;(with_reducible repeat (first|refine Q5 ?_ _|refine Q6 ?_|refine Q3 ?_ _));exact YL.out) hb);have n1_:=Q0.mk (Qf (g:=YO) (o:=.cells #[.slice Y5 Qb.length QK,.slice Y2 Qk.length QM,.slice Y7 Qd.length QN,.int .i64 Yb,.int .i64 Ya] 111 (0,0)) (by (with_reducible repeat (first|refine Q5 ?_ _|refine Q6 ?_|refine Q3 ?_ _));refine QC (cs:=#[.slice Y5 Qb.length QK,.slice Y2 Qk.length QM,.slice Y7 Qd.length QN,.int .i64 Yb,.int .i64 0]) ?_ 4 _ rfl;(with_reducible repeat (first|refine Q5 ?_ _|refine Q6 ?_|refine Q3 ?_ _));refine QC (cs:=#[.slice Y5 Qb.length QK,.slice Y2 Qk.length QM,.slice Y7 Qd.length QN,.int .i64 0,.int .i64 0]) ?_ 3 _ rfl;(with_reducible repeat (first|refine Q5 ?_ _|refine Q6 ?_|refine Q3 ?_ _));refine QC (cs:=#[.slice Y5 Qb.length QK,.slice Y2 Qk.length QM,.slice none 0 0,.int .i64 0,.int .i64 0]) ?_ 2 _ rfl;(with_reducible repeat (first|refine Q5 ?_ _|refine Q6 ?_|refine Q3 ?_ _));refine QC (cs:=#[.slice Y5 Qb.length QK,.slice none 0 0,.slice none 0 0,.int .i64 0,.int .i64 0]) ?_ 1 _ rfl;(with_reducible repeat (first|refine Q5 ?_ _|refine Q6 ?_|refine Q3 ?_ _));refine QC (cs:=#[.slice none 0 0,.slice none 0 0,.slice none 0 0,.int .i64 0,.int .i64 0]) ?_ 0 _ rfl;(with_reducible repeat (first|refine Q5 ?_ _|refine Q6 ?_|refine Q3 ?_ _));exact Y0.out) hb);have n2_:=Q0.mk (Qi (by repeat (first|(with_reducible first|exact HB.out|apply Q2|apply Q1|apply Q4|refine Q7 ?_ ZN.out|refine Q7 ?_ ZW.out)|exact HB.out)) hb);clear YL Y0 HB;have YL:=n0_;have Y0:=n1_;have HB:=n2_;clear n0_ n1_ n2_;(try clear hb);(try clear hb2);(try clear hk);(try clear hi))|(go_at_call 65;(with_reducible refine (Qj.calls (l1.length:Int) 1 10 false _ A12.out).mono ?_);rintro e w' ⟨rfl,⟨nd,rfl⟩⟩))
   go_meet
   case rel=>exact ⟨_,(false),(by first|rfl|(simp;done)|(simp [*];done)),H',⟨by first|omega|exact Nat.le_refl _⟩,⟨by (with_reducible repeat (first|refine Q5 ?_ _|refine Q6 ?_|refine Q3 ?_ _));exact YL.out⟩,⟨by (with_reducible repeat (first|refine Q5 ?_ _|refine Q6 ?_|refine Q3 ?_ _));exact Y0.out⟩,⟨by repeat (first|(with_reducible first|exact HB.out|apply Q2|apply Q1|apply Q4|refine Q7 ?_ ZN.out|refine Q7 ?_ ZW.out)|exact HB.out)⟩⟩
  replace c11:=Bool.eq_false_iff.mpr c11
  subst c11
  have H1:(QH.j0 k l1 l2 false Qb Qk Qd Yb Ya)=some (r1,r2):=by rw [if_neg (show ¬ (false=true) by decide)] at H;exact H
  clear H
  have H:=H1
  clear H1
  have H':=Q0.mk H
  clear H
  have qth:=UF.out
  have qtv:=ZC.out
  have Oi:w7.cell? ⟨YO,0,none⟩=some (.slice none 0 0):=(Q8 Y0.out 0).trans rfl
  have Oj:w7.cell? ⟨YO,1,none⟩=some (.slice none 0 0):=(Q8 Y0.out 1).trans rfl
  have Ol:w7.cell? ⟨YO,2,none⟩=some (.slice none 0 0):=(Q8 Y0.out 2).trans rfl
  have qbD:w7.cell? ⟨YO,3,none⟩=some (.int .i64 0):=(Q8 Y0.out 3).trans rfl
  have qbE:w7.cell? ⟨YO,4,none⟩=some (.int .i64 0):=(Q8 Y0.out 4).trans rfl
  have Oo:=Qa Y0.out 0
  have Oq:=Qa Y0.out 1
  have Ot:=Qa Y0.out 2
  have qbO:=Qa Y0.out 3
  have qbP:=Qa Y0.out 4
  go_wp2_with (first|((with_reducible refine Qz (f:=76) rfl ?_);refine Yo (some 20) rfl rfl Try.func76 (by kernel_rfl) rfl #[.agg #[.slice Y5 Qb.length QK,.slice Y2 Qk.length QM,.slice Y7 Qd.length QN,.int .i64 Yb,.int .i64 Ya]] rfl (by (try simp only [List.map_toArray,List.map_cons,List.map_nil]);first|done|rfl|(simp only [List.length_drop,List.length_take];rfl)) ?_;(with_reducible refine (Qn.calls k _ _ Qb _ _ Qk _ _ Qd Yb Ya false _ ?side1 ?side2 ?side3 ?side4 ?side5 ?side6 A10.out).mono ?_);(case side1=>exact Kd.C_below Jt.out (by repeat (first|(with_reducible first|exact HB.out|apply Q2|apply Q1|apply Q4|refine Q7 ?_ ZN.out|refine Q7 ?_ ZW.out)|exact HB.out)));(case side2=>exact JU.out);(case side3=>exact Kd.C_below JI.out (by repeat (first|(with_reducible first|exact HB.out|apply Q2|apply Q1|apply Q4|refine Q7 ?_ ZN.out|refine Q7 ?_ ZW.out)|exact HB.out)));(case side4=>exact JV.out);(case side5=>exact Kd.C_below JJ.out (by repeat (first|(with_reducible first|exact HB.out|apply Q2|apply Q1|apply Q4|refine Q7 ?_ ZN.out|refine Q7 ?_ ZW.out)|exact HB.out)));(case side6=>exact JW.out);rintro e w22 ⟨rfl,hb⟩;refine ⟨_,rfl,?_⟩;have n0_:=Q0.mk (Qf (g:=ZQ) (o:=.cells #[.slice Y5 Qb.length QK,.slice Y2 Qk.length QM,.slice Y7 Qd.length QN,.int .i64 Yb,.int .i64 Ya] 39 (0,0)) (by (with_reducible repeat (first|refine Q5 ?_ _|refine Q6 ?_|refine Q3 ?_ _));refine Qm ?_ ZC.out _;(with_reducible repeat (first|refine Q5 ?_ _|refine Q6 ?_|refine Q3 ?_ _));refine Qm ?_ ZC.out _;(with_reducible repeat (first|refine Q5 ?_ _|refine Q6 ?_|refine Q3 ?_ _));refine Qm ?_ ZC.out _;(with_reducible repeat (first|refine Q5 ?_ _|refine Q6 ?_|refine Q3 ?_ _));refine Qm ?_ ZC.out _;(with_reducible repeat (first|refine Q5 ?_ _|refine Q6 ?_|refine Q3 ?_ _));refine Qm ?_ ZC.out _;(with_reducible repeat (first|refine Q5 ?_ _|refine Q6 ?_|refine Q3 ?_ _));exact YL.out) hb);have n1_:=Q0.mk (Qf (g:=YO) (o:=.cells #[.slice Y5 Qb.length QK,.slice Y2 Qk.length QM,.slice Y7 Qd.length QN,.int .i64 Yb,.int .i64 Ya] 111 (0,0)) (by (with_reducible repeat (first|refine Q5 ?_ _|refine Q6 ?_|refine Q3 ?_ _));refine QC (cs:=#[.slice Y5 Qb.length QK,.slice Y2 Qk.length QM,.slice Y7 Qd.length QN,.int .i64 Yb,.int .i64 0]) ?_ 4 _ rfl;(with_reducible repeat (first|refine Q5 ?_ _|refine Q6 ?_|refine Q3 ?_ _));refine QC (cs:=#[.slice Y5 Qb.length QK,.slice Y2 Qk.length QM,.slice Y7 Qd.length QN,.int .i64 0,.int .i64 0]) ?_ 3 _ rfl;(with_reducible repeat (first|refine Q5 ?_ _|refine Q6 ?_|refine Q3 ?_ _));refine QC (cs:=#[.slice Y5 Qb.length QK,.slice Y2 Qk.length QM,.slice none 0 0,.int .i64 0,.int .i64 0]) ?_ 2 _ rfl;(with_reducible repeat (first|refine Q5 ?_ _|refine Q6 ?_|refine Q3 ?_ _));refine QC (cs:=#[.slice Y5 Qb.length QK,.slice none 0 0,.slice none 0 0,.int .i64 0,.int .i64 0]) ?_ 1 _ rfl;(with_reducible repeat (first|refine Q5 ?_ _|refine Q6 ?_|refine Q3 ?_ _));refine QC (cs:=#[.slice none 0 0,.slice none 0 0,.slice none 0 0,.int .i64 0,.int .i64 0]) ?_ 0 _ rfl;(with_reducible repeat (first|refine Q5 ?_ _|refine Q6 ?_|refine Q3 ?_ _));exact Y0.out) hb);have n2_:=Q0.mk (Qi (by repeat (first|(with_reducible first|exact HB.out|apply Q2|apply Q1|apply Q4|refine Q7 ?_ ZN.out|refine Q7 ?_ ZW.out)|exact HB.out)) hb);clear YL Y0 HB;have YL:=n0_;have Y0:=n1_;have HB:=n2_;clear n0_ n1_ n2_;(try clear hb);(try clear hb2);(try clear hk);(try clear hi)))
  go_meet
  case rel=>exact ⟨_,(false),(by first|rfl|(simp;done)|(simp [*];done)),H',⟨by first|omega|exact Nat.le_refl _⟩,⟨by (with_reducible repeat (first|refine Q5 ?_ _|refine Q6 ?_|refine Q3 ?_ _));exact YL.out⟩,⟨by (with_reducible repeat (first|refine Q5 ?_ _|refine Q6 ?_|refine Q3 ?_ _));exact Y0.out⟩,⟨by repeat (first|(with_reducible first|exact HB.out|apply Q2|apply Q1|apply Q4|refine Q7 ?_ ZN.out|refine Q7 ?_ ZW.out)|exact HB.out)⟩⟩
 case rest =>
  clear HC4
  try clear c1
  try clear c2
  try clear p2
  try clear c7
  try clear c8
  try clear c11
  try clear c13
  try clear c14
  try clear c17
  try clear c20
  try clear Og
  try clear Oh
  try clear OZ
  try clear U0
  try clear U1
  try clear U2
  try clear U3
  try clear U4
  try clear qbB
  try clear qbC
  try clear Oi
  try clear Oj
  try clear Ol
  try clear qbD
  try clear qbE
  try clear Xg
  try clear Xh
  try clear qaS
  try clear qdI
  try clear qdJ
  try clear Kk
  try clear Kl
  try clear Km
  try clear qdM
  try clear qdN
  try clear Om
  try clear On
  try clear Ub
  try clear Uc
  try clear Ud
  try clear Ue
  try clear Uf
  try clear Ug
  try clear qbM
  try clear qbN
  try clear Oo
  try clear Oq
  try clear Ot
  try clear qbO
  try clear qbP
  try clear Xi
  try clear Xj
  try clear qaT
  try clear qdW
  try clear qdX
  try clear Ko
  try clear Kp
  try clear Kq
  try clear qd0
  try clear qd1
  obtain ⟨kq,qoo,rfl,HA,HJ3,YL,Y0,HB⟩:=hcut
  cases kq with
  | zero=>exact absurd HA.out (by simp [QH.j0])
  | succ kj3 =>
   have H:=HA.out
   clear HA
   simp only [QH.j0] at H
   have H':=Q0.mk H
   clear H
   go_wp2
   go_loopg [9,10] kj3 (fun kq v9 v10 w' => ∃ (qhE:Bool) (ZH:Int),v9 = .bool qhE∧v10 = .int .i64 ZH∧Q0 (QH.l0 kq l1 l2 qhE ZH Qb Qk Qd Yb Ya=some (r1,r2))∧Q0 (kq≤kj3)∧Q0 (w'.heap[ZQ]? = some (.cells #[(.slice Y5 Qb.length QK),(.slice Y2 Qk.length QM),(.slice Y7 Qd.length QN),.int .i64 Yb,.int .i64 Ya] 39 (0,0)))∧Q0 (w'.heap[YO]? = some (.cells #[(.slice Y5 Qb.length QK),(.slice Y2 Qk.length QM),(.slice Y7 Qd.length QN),.int .i64 Yb,.int .i64 Ya] 111 (0,0)))∧Q0 (Below w.heap.size w w'))
   case atStart=>exact ⟨(qoo),(0),(by first|rfl|(simp;done)|(simp [*];done)),(by first|rfl|(simp;done)|(simp [*];done)),H',⟨Nat.le_refl _⟩,⟨by (with_reducible repeat (first|refine Q5 ?_ _|refine Q6 ?_|refine Q3 ?_ _));exact YL.out⟩,⟨by (with_reducible repeat (first|refine Q5 ?_ _|refine Q6 ?_|refine Q3 ?_ _));exact Y0.out⟩,⟨by repeat (first|(with_reducible first|exact HB.out|apply Q2|apply Q1|apply Q4|refine Q7 ?_ ZN.out|refine Q7 ?_ ZW.out)|exact HB.out)⟩⟩
   case round =>
    clear H';(try clear c1);(try clear c2);(try clear p2);(try clear c7);(try clear c8);(try clear c11);(try clear c13);(try clear c14);(try clear c17);(try clear c20);(try clear Og);(try clear Oh);(try clear OZ);(try clear U0);(try clear U1);(try clear U2);(try clear U3);(try clear U4);(try clear qbB);(try clear qbC);(try clear Oi);(try clear Oj);(try clear Ol);(try clear qbD);(try clear qbE);(try clear Xg);(try clear Xh);(try clear qaS);(try clear qdI);(try clear qdJ);(try clear Kk);(try clear Kl);(try clear Km);(try clear qdM);(try clear qdN);(try clear Om);(try clear On);(try clear Ub);(try clear Uc);(try clear Ud);(try clear Ue);(try clear Uf);(try clear Ug);(try clear qbM);(try clear qbN);(try clear Oo);(try clear Oq);(try clear Ot);(try clear qbO);(try clear qbP);(try clear Xi);(try clear Xj);(try clear qaT);(try clear qdW);(try clear qdX);(try clear Ko);(try clear Kp);(try clear Kq);(try clear qd0);(try clear qd1);(try clear p2);obtain ⟨qhE,ZH,rfl,rfl,HA,HK2,YL,Y0,HB⟩:=hrel
    cases gk with
    | zero=>exact absurd HA.out (by simp [QH.l0])
    | succ k2 =>
     have H:=HA.out;clear HA;simp only [QH.l0] at H;have qgv:=Q0.mk H;clear H
     go_upto_region 4 with (fail)
     go_cut [39] (fun v39 wc => ∃ (kq:Nat) (qeG:Bool),v39 = .bool qeG∧Q0 (QH.j2 kq l1 l2 qhE ZH qeG Qb Qk Qd Yb Ya=some (r1,r2))∧Q0 (kq≤k2)∧Q0 (wc.heap[ZQ]? = some (.cells #[(.slice Y5 Qb.length QK),(.slice Y2 Qk.length QM),(.slice Y7 Qd.length QN),.int .i64 Yb,.int .i64 Ya] 39 (0,0)))∧Q0 (wc.heap[YO]? = some (.cells #[(.slice Y5 Qb.length QK),(.slice Y2 Qk.length QM),(.slice Y7 Qd.length QN),.int .i64 Yb,.int .i64 Ya] 111 (0,0)))∧Q0 (Below w.heap.size w wc))
     case first =>
      have H:=qgv.out;clear qgv
      by_cases c24:qhE=true
      ·
       subst c24
       have H1:(QH.j2 k2 l1 l2 true ZH (decide (ZH<(l1.length:Int))) Qb Qk Qd Yb Ya)=some (r1,r2):=by rw [if_pos rfl] at H;exact H
       clear H;have H:=H1;clear H1;have H':=Q0.mk H;clear H
       go_wp2
       go_meet
       case rel=>exact ⟨_,(decide (ZH<(l1.length:Int))),(by first|rfl|(simp;done)|(simp [*];done)),H',⟨by have:=HJ3.out;have:=HK2.out;first|omega|exact Nat.le_refl _⟩,⟨by (with_reducible repeat (first|refine Q5 ?_ _|refine Q6 ?_|refine Q3 ?_ _));exact YL.out⟩,⟨by (with_reducible repeat (first|refine Q5 ?_ _|refine Q6 ?_|refine Q3 ?_ _));exact Y0.out⟩,⟨by repeat (first|(with_reducible first|exact HB.out|apply Q2|apply Q1|apply Q4|refine Q7 ?_ ZN.out|refine Q7 ?_ ZW.out)|exact HB.out)⟩⟩
      replace c24:=Bool.eq_false_iff.mpr c24;subst c24
      have H1:(QH.j2 k2 l1 l2 false ZH false Qb Qk Qd Yb Ya)=some (r1,r2):=by rw [if_neg (show ¬ (false=true) by decide)] at H;exact H
      clear H;have H:=H1;clear H1;have H':=Q0.mk H;clear H
      go_wp2
      go_meet
      case rel=>exact ⟨_,(false),(by first|rfl|(simp;done)|(simp [*];done)),H',⟨by have:=HJ3.out;have:=HK2.out;first|omega|exact Nat.le_refl _⟩,⟨by (with_reducible repeat (first|refine Q5 ?_ _|refine Q6 ?_|refine Q3 ?_ _));exact YL.out⟩,⟨by (with_reducible repeat (first|refine Q5 ?_ _|refine Q6 ?_|refine Q3 ?_ _));exact Y0.out⟩,⟨by repeat (first|(with_reducible first|exact HB.out|apply Q2|apply Q1|apply Q4|refine Q7 ?_ ZN.out|refine Q7 ?_ ZW.out)|exact HB.out)⟩⟩
     case rest =>
      clear qgv;(try clear c1);(try clear c2);(try clear p2);(try clear c7);(try clear c8);(try clear c11);(try clear c13);(try clear c14);(try clear c17);(try clear c20);(try clear c24);(try clear Og);(try clear Oh);(try clear OZ);(try clear U0);(try clear U1);(try clear U2);(try clear U3);(try clear U4);(try clear qbB);(try clear qbC);(try clear Oi);(try clear Oj);(try clear Ol);(try clear qbD);(try clear qbE);(try clear Xg);(try clear Xh);(try clear qaS);(try clear qdI);(try clear qdJ);(try clear Kk);(try clear Kl);(try clear Km);(try clear qdM);(try clear qdN);(try clear Om);(try clear On);(try clear Ub);(try clear Uc);(try clear Ud);(try clear Ue);(try clear Uf);(try clear Ug);(try clear qbM);(try clear qbN);(try clear Oo);(try clear Oq);(try clear Ot);(try clear qbO);(try clear qbP);(try clear Xi);(try clear Xj);(try clear qaT);(try clear qdW);(try clear qdX);(try clear Ko);(try clear Kp);(try clear Kq);(try clear qd0);(try clear qd1);(try clear p2);obtain ⟨kq,qeG,rfl,HA,Ut,YL,Y0,HB⟩:=hcut
      cases kq with
      | zero=>exact absurd HA.out (by simp [QH.j2])
      | succ Wd =>
       have H:=HA.out;clear HA;simp only [QH.j2] at H
       by_cases c25:qeG=true
       ·
        subst c25
        have H1:(if 0≤ZH then (if ZH<(l1.length:Int) then ((Qj.f (rd l1 ZH) 0 100000000).bind fun t159=>(if t159=true then (if ZH<(l2.length:Int) then ((Qj.f (rd l2 ZH) 0 100000).bind fun qcD=>(QH.l0 Wd l1 l2 qcD (wrap64 (ZH+1)) Qb Qk Qd Yb Ya)) else (none)) else (QH.l0 Wd l1 l2 false (wrap64 (ZH+1)) Qb Qk Qd Yb Ya))) else (none)) else (none))=some (r1,r2):=by rw [if_pos rfl] at H;exact H
        clear H;have H:=H1;clear H1
        by_cases c26:0≤ZH
        ·
         rw [if_pos c26] at H;have c26b0:decide (0≤ZH)=true:=decide_eq_true c26;clear c26
         by_cases c27:ZH<(l1.length:Int)
         ·
          rw [if_pos c27] at H;have c27b0:decide (ZH<(l1.length:Int))=true:=decide_eq_true c27;clear c27;replace H:=Option.bind_eq_some_iff.mp H;obtain ⟨t159,qqx,H⟩:=H;replace H:(if t159=true then (if ZH<(l2.length:Int) then ((Qj.f (rd l2 ZH) 0 100000).bind fun qcD=>(QH.l0 Wd l1 l2 qcD (wrap64 (ZH+1)) Qb Qk Qd Yb Ya)) else (none)) else (QH.l0 Wd l1 l2 false (wrap64 (ZH+1)) Qb Qk Qd Yb Ya))=some (r1,r2):=H;have A28:=Q0.mk qqx;clear qqx
          by_cases c29:t159=true
          ·
           subst c29
           have H1:(if ZH<(l2.length:Int) then ((Qj.f (rd l2 ZH) 0 100000).bind fun qcD=>(QH.l0 Wd l1 l2 qcD (wrap64 (ZH+1)) Qb Qk Qd Yb Ya)) else (none))=some (r1,r2):=by rw [if_pos rfl] at H;exact H
           clear H;have H:=H1;clear H1
           by_cases c30:ZH<(l2.length:Int)
           ·
            rw [if_pos c30] at H;have c30b0:decide (ZH<(l2.length:Int))=true:=decide_eq_true c30;clear c30;replace H:=Option.bind_eq_some_iff.mp H;obtain ⟨qcD,qqy,H⟩:=H;replace H:(QH.l0 Wd l1 l2 qcD (wrap64 (ZH+1)) Qb Qk Qd Yb Ya)=some (r1,r2):=H;have A31:=Q0.mk qqy;clear qqy;have H':=Q0.mk H;clear H;have qfN:0≤(ZH:Int):=of_decide_eq_true (by first|(with_reducible assumption)|assumption);have qfR:ZH<(l1.length:Int):=of_decide_eq_true (by first|(with_reducible assumption)|assumption);obtain ⟨qru,qpG,Uh⟩:=Kd.at_int HR1.out ZH qfN qfR;cases qpG;replace Uh:=(HB.out.cell (World.block_lt_of_cell? w _ Uh)).trans Uh;replace qfN:=eq_true qfN;replace qfR:=eq_true qfR
            go_wp2_with (first|((with_reducible refine Qz (f:=65) rfl ?_);refine Yo (some 46) rfl rfl Try.func65 (by kernel_rfl) rfl #[.int .i64 (rd l1 ZH),.int .i64 0,.int .i64 100000000] rfl (by (try simp only [List.map_toArray,List.map_cons,List.map_nil]);first|done|rfl|(simp only [List.length_drop,List.length_take];rfl)) ?_;(with_reducible refine (Qj.calls (rd l1 ZH) 0 100000000 true _ A28.out).mono ?_);rintro e w' ⟨rfl,⟨nd,rfl⟩⟩;refine ⟨_,rfl,?_⟩;have qnT:0≤(ZH:Int):=of_decide_eq_true (by first|(with_reducible assumption)|assumption);have qn2:ZH<(l2.length:Int):=of_decide_eq_true (by first|(with_reducible assumption)|assumption);obtain ⟨qBU,qAf,qb1⟩:=Kd.at_int HR2.out ZH qnT qn2;cases qAf;replace qb1:=(HB.out.cell (World.block_lt_of_cell? w _ qb1)).trans qb1;replace qnT:=eq_true qnT;replace qn2:=eq_true qn2)|(go_at_call 65;(with_reducible refine (Qj.calls (rd l2 ZH) 0 100000 qcD _ A31.out).mono ?_);rintro e w' ⟨rfl,⟨nd,rfl⟩⟩))
            go_roundg Wd
            case measure=>have:=HJ3.out;have:=HK2.out;have:=Ut.out;omega
            case rel=>exact ⟨(qcD),(wrap64 (ZH+1)),(by first|rfl|(simp;done)|(simp [*];done)),(by first|rfl|(simp;done)|(simp [*];done)),H',⟨by have:=HJ3.out;have:=HK2.out;have:=Ut.out;omega⟩,⟨by (with_reducible repeat (first|refine Q5 ?_ _|refine Q6 ?_|refine Q3 ?_ _));exact YL.out⟩,⟨by (with_reducible repeat (first|refine Q5 ?_ _|refine Q6 ?_|refine Q3 ?_ _));exact Y0.out⟩,⟨by repeat (first|(with_reducible first|exact HB.out|apply Q2|apply Q1|apply Q4|refine Q7 ?_ ZN.out|refine Q7 ?_ ZW.out)|exact HB.out)⟩⟩
           rw [if_neg c30] at H
           exact absurd H (by simp)
          replace c29:=Bool.eq_false_iff.mpr c29;subst c29
          have H1:(QH.l0 Wd l1 l2 false (wrap64 (ZH+1)) Qb Qk Qd Yb Ya)=some (r1,r2):=by rw [if_neg (show ¬ (false=true) by decide)] at H;exact H
          clear H;have H:=H1;clear H1;have H':=Q0.mk H;clear H;have qfN:0≤(ZH:Int):=of_decide_eq_true (by first|(with_reducible assumption)|assumption);have qfR:ZH<(l1.length:Int):=of_decide_eq_true (by first|(with_reducible assumption)|assumption);obtain ⟨qru,qpG,Uh⟩:=Kd.at_int HR1.out ZH qfN qfR;cases qpG;replace Uh:=(HB.out.cell (World.block_lt_of_cell? w _ Uh)).trans Uh;replace qfN:=eq_true qfN;replace qfR:=eq_true qfR
          go_wp2_with (first|((with_reducible refine Qz (f:=65) rfl ?_);refine Yo (some 46) rfl rfl Try.func65 (by kernel_rfl) rfl #[.int .i64 (rd l1 ZH),.int .i64 0,.int .i64 100000000] rfl (by (try simp only [List.map_toArray,List.map_cons,List.map_nil]);first|done|rfl|(simp only [List.length_drop,List.length_take];rfl)) ?_;(with_reducible refine (Qj.calls (rd l1 ZH) 0 100000000 false _ A28.out).mono ?_);rintro e w' ⟨rfl,⟨nd,rfl⟩⟩;refine ⟨_,rfl,?_⟩))
          go_roundg Wd
          case measure=>have:=HJ3.out;have:=HK2.out;have:=Ut.out;omega
          case rel=>exact ⟨(false),(wrap64 (ZH+1)),(by first|rfl|(simp;done)|(simp [*];done)),(by first|rfl|(simp;done)|(simp [*];done)),H',⟨by have:=HJ3.out;have:=HK2.out;have:=Ut.out;omega⟩,⟨by (with_reducible repeat (first|refine Q5 ?_ _|refine Q6 ?_|refine Q3 ?_ _));exact YL.out⟩,⟨by (with_reducible repeat (first|refine Q5 ?_ _|refine Q6 ?_|refine Q3 ?_ _));exact Y0.out⟩,⟨by repeat (first|(with_reducible first|exact HB.out|apply Q2|apply Q1|apply Q4|refine Q7 ?_ ZN.out|refine Q7 ?_ ZW.out)|exact HB.out)⟩⟩
         rw [if_neg c27] at H
         exact absurd H (by simp)
        rw [if_neg c26] at H
        exact absurd H (by simp)
       replace c25:=Bool.eq_false_iff.mpr c25;subst c25
       have H1:(if qhE=true then ((Z9.f Qb Qk Qd Yb Ya).bind fun Ku=>(QH.l1 Wd l1 l2 ([]:List Int) (l1.length:Int) 0 Qb Qk Qd Yb Ya Ku.1 Ku.2.1 Ku.2.2.1 Ku.2.2.2.1 Ku.2.2.2.2.1 Ku.2.2.2.2.2)) else (some (([]:List Int),92)))=some (r1,r2):=by rw [if_neg (show ¬ (false=true) by decide)] at H;exact H
       clear H;have H:=H1;clear H1
       by_cases c32:qhE=true
       ·
        subst c32
        have H1:((Z9.f Qb Qk Qd Yb Ya).bind fun Ku=>(QH.l1 Wd l1 l2 ([]:List Int) (l1.length:Int) 0 Qb Qk Qd Yb Ya Ku.1 Ku.2.1 Ku.2.2.1 Ku.2.2.2.1 Ku.2.2.2.2.1 Ku.2.2.2.2.2))=some (r1,r2):=by rw [if_pos rfl] at H;exact H
        clear H;have H:=H1;clear H1;replace H:=Option.bind_eq_some_iff.mp H;obtain ⟨⟨t162,qhs,t164,qlN,qoa,t167⟩,qkj,H⟩:=H;replace H:(QH.l1 Wd l1 l2 ([]:List Int) (l1.length:Int) 0 Qb Qk Qd Yb Ya t162 qhs t164 qlN qoa t167)=some (r1,r2):=H;have A33:=Q0.mk qkj;clear qkj;have H':=Q0.mk H;clear H;have qCy:=UF.out;have qDa:=ZC.out;have qmz:wc.cell? ⟨YO,0,none⟩=some (.slice Y5 Qb.length QK):=(Q8 Y0.out 0).trans rfl;have qmA:wc.cell? ⟨YO,1,none⟩=some (.slice Y2 Qk.length QM):=(Q8 Y0.out 1).trans rfl;have qmB:wc.cell? ⟨YO,2,none⟩=some (.slice Y7 Qd.length QN):=(Q8 Y0.out 2).trans rfl;have qmC:wc.cell? ⟨YO,3,none⟩=some (.int .i64 Yb):=(Q8 Y0.out 3).trans rfl;have qmD:wc.cell? ⟨YO,4,none⟩=some (.int .i64 Ya):=(Q8 Y0.out 4).trans rfl;have qnb:=Qa Y0.out 0;have qnc:=Qa Y0.out 1;have qnd:=Qa Y0.out 2;have qne:=Qa Y0.out 3;have qnf:=Qa Y0.out 4
        go_wp2_with (first|((with_reducible refine Qz (f:=78) rfl ?_);refine Yo (some 57) rfl rfl Try.func78 (by kernel_rfl) rfl #[.agg #[.slice Y5 Qb.length QK,.slice Y2 Qk.length QM,.slice Y7 Qd.length QN,.int .i64 Yb,.int .i64 Ya]] rfl (by (try simp only [List.map_toArray,List.map_cons,List.map_nil]);first|done|rfl|(simp only [List.length_drop,List.length_take];rfl)) ?_;(with_reducible refine (Z9.calls _ _ Qb _ _ Qk _ _ Qd Yb Ya t162 qhs t164 qlN qoa t167 _ ?side1 ?side2 ?side3 ?side4 ?side5 ?side6 A33.out).mono ?_);(case side1=>repeat (first|exact (Kd.C_below Jt.out HB.out)|(with_reducible refine Kd.C_alloc ?_ _)|(with_reducible refine Kd.C_drewN ?_ _)|(with_reducible refine Kd.C_drew ?_)));(case side2=>exact JU.out);(case side3=>repeat (first|exact (Kd.C_below JI.out HB.out)|(with_reducible refine Kd.C_alloc ?_ _)|(with_reducible refine Kd.C_drewN ?_ _)|(with_reducible refine Kd.C_drew ?_)));(case side4=>exact JV.out);(case side5=>repeat (first|exact (Kd.C_below JJ.out HB.out)|(with_reducible refine Kd.C_alloc ?_ _)|(with_reducible refine Kd.C_drewN ?_ _)|(with_reducible refine Kd.C_drew ?_)));(case side6=>exact JW.out);rintro e w36 ⟨rfl,hb⟩;refine ⟨_,rfl,?_⟩;have n0_:=Q0.mk (Qf (g:=ZQ) (by (with_reducible repeat (first|refine Q5 ?_ _|refine Q6 ?_|refine Q3 ?_ _));exact YL.out) hb);have n1_:=Q0.mk (Qf (g:=YO) (by (with_reducible repeat (first|refine Q5 ?_ _|refine Q6 ?_|refine Q3 ?_ _));exact Y0.out) hb);have n2_:=Q0.mk (Qi (by repeat (first|(with_reducible first|exact HB.out|apply Q2|apply Q1|apply Q4|refine Q7 ?_ ZN.out|refine Q7 ?_ ZW.out)|exact HB.out)) hb);clear YL Y0 HB;have YL:=n0_;have Y0:=n1_;have HB:=n2_;clear n0_ n1_ n2_;(try clear hb);(try clear hb2);(try clear hk);(try clear hi))|((with_reducible refine QW (N:=12) rfl ?_);(try (refine Ga (by rfl) ?_;dsimp only));refine Ym ?hg (N:=12) ?hd (cs:=#[.int .i64 0,.int .i64 0,.int .i64 0,.int .i64 0,.int .i64 0,.int .i64 0]) (t:=115) ?hr ?_;(case hd=>rfl);(case hg=>rfl);(case hr=>first|(go_simp;done)|(go_simp;rfl));intro Yn hg w37 hbox hb;have n0_:=Q0.mk (Qf (g:=ZQ) (by (with_reducible repeat (first|refine Q5 ?_ _|refine Q6 ?_|refine Q3 ?_ _));exact YL.out) hb);have n1_:=Q0.mk (Qf (g:=YO) (by (with_reducible repeat (first|refine Q5 ?_ _|refine Q6 ?_|refine Q3 ?_ _));exact Y0.out) hb);have n2_:=Q0.mk (Qi (by repeat (first|(with_reducible first|exact HB.out|apply Q2|apply Q1|apply Q4|refine Q7 ?_ ZN.out|refine Q7 ?_ ZW.out)|exact HB.out)) hb);have n3_:=Q0.mk (hbox);have n4_:=Q0.mk ((by rw [hg];exact (Qe (by repeat (first|(with_reducible first|exact HB.out|apply Q2|apply Q1|apply Q4|refine Q7 ?_ ZN.out|refine Q7 ?_ ZW.out)|exact HB.out))):w.heap.size≤Yn));have n5_:=n4_;have n6_:=Q0.mk ((by rw [hg];exact Nat.ne_of_lt (QO (g:=ZQ) (by (with_reducible repeat (first|refine Q5 ?_ _|refine Q6 ?_|refine Q3 ?_ _));exact YL.out)):ZQ≠Yn));have n7_:=Q0.mk (n6_.out.symm);have n8_:=Q0.mk ((by rw [hg];exact Nat.ne_of_lt (QO (g:=YO) (by (with_reducible repeat (first|refine Q5 ?_ _|refine Q6 ?_|refine Q3 ?_ _));exact Y0.out)):YO≠Yn));have n9_:=Q0.mk (n8_.out.symm);clear YL Y0 HB;have YL:=n0_;have Y0:=n1_;have HB:=n2_;have Yt:=n3_;have qBH:=n4_;have O9:=n5_;have ZI:=n6_;have KR:=n7_;have ZJ:=n8_;have KS:=n9_;clear n0_ n1_ n2_ n3_ n4_ n5_ n6_ n7_ n8_ n9_ hb hbox hg;have qCA:=KR.out;have qDc:=ZI.out;have qo6:=KS.out;have qo7:=ZJ.out;have qbF:w37.cell? ⟨Yn,0,none⟩=some (.int .i64 0):=(Q8 Yt.out 0).trans rfl;have qbG:w37.cell? ⟨Yn,1,none⟩=some (.int .i64 0):=(Q8 Yt.out 1).trans rfl;have qbH:w37.cell? ⟨Yn,2,none⟩=some (.int .i64 0):=(Q8 Yt.out 2).trans rfl;have qmK:w37.cell? ⟨Yn,3,none⟩=some (.int .i64 0):=(Q8 Yt.out 3).trans rfl;have qmL:w37.cell? ⟨Yn,4,none⟩=some (.int .i64 0):=(Q8 Yt.out 4).trans rfl;have qmM:w37.cell? ⟨Yn,5,none⟩=some (.int .i64 0):=(Q8 Yt.out 5).trans rfl;have qbQ:=Qa Yt.out 0;have qbR:=Qa Yt.out 1;have qbS:=Qa Yt.out 2;have qnm:=Qa Yt.out 3;have qnn:=Qa Yt.out 4;have qno:=Qa Yt.out 5))
        go_loopg [13,60] Wd (fun kq v13 v60 w' => ∃ (YT:List Int) (J2:Int) (Zp:Int) (Zh:Int) (Ze:Int) (Za:Int) (Z5:Int) (Z0:Int),v60 = .int .i64 J2∧Q0 (QH.l1 kq l1 l2 YT (l1.length:Int) J2 Qb Qk Qd Yb Ya Zp Zh Ze Za Z5 Z0=some (r1,r2))∧Q0 (kq≤Wd)∧Q0 (Kd.R (Kd.int .i64) 3 w' w.heap.size (fun k_=>(w.heap.size≤k_)) v13 YT)∧Q0 (w'.heap[ZQ]? = some (.cells #[(.slice Y5 Qb.length QK),(.slice Y2 Qk.length QM),(.slice Y7 Qd.length QN),.int .i64 Yb,.int .i64 Ya] 39 (0,0)))∧Q0 (w'.heap[YO]? = some (.cells #[(.slice Y5 Qb.length QK),(.slice Y2 Qk.length QM),(.slice Y7 Qd.length QN),.int .i64 Yb,.int .i64 Ya] 111 (0,0)))∧Q0 (w'.heap[Yn]? = some (.cells #[.int .i64 Zp,.int .i64 Zh,.int .i64 Ze,.int .i64 Za,.int .i64 Z5,.int .i64 Z0] 115 (0,0)))∧Q0 (Below w.heap.size w w'))
        case atStart=>exact ⟨(([]:List Int)),(0),(t162),(qhs),(t164),(qlN),(qoa),(t167),(by first|rfl|(simp;done)|(simp [*];done)),H',⟨Nat.le_refl _⟩,⟨by first|exact Kd.R_nil _ _ _ _ _|exact Kd.N_nil _ _ _ _ _|exact Kd.V_nil _ _ _ _ _|exact Kd.Q_nil _ _ _ _ _|exact Kd.S_nil _ _ _ _ _⟩,⟨by (with_reducible repeat (first|refine Q5 ?_ _|refine Q6 ?_|refine Q3 ?_ _));refine Qm ?_ ZI.out _;(with_reducible repeat (first|refine Q5 ?_ _|refine Q6 ?_|refine Q3 ?_ _));refine Qm ?_ ZI.out _;(with_reducible repeat (first|refine Q5 ?_ _|refine Q6 ?_|refine Q3 ?_ _));refine Qm ?_ ZI.out _;(with_reducible repeat (first|refine Q5 ?_ _|refine Q6 ?_|refine Q3 ?_ _));refine Qm ?_ ZI.out _;(with_reducible repeat (first|refine Q5 ?_ _|refine Q6 ?_|refine Q3 ?_ _));refine Qm ?_ ZI.out _;(with_reducible repeat (first|refine Q5 ?_ _|refine Q6 ?_|refine Q3 ?_ _));refine Qm ?_ ZI.out _;(with_reducible repeat (first|refine Q5 ?_ _|refine Q6 ?_|refine Q3 ?_ _));exact YL.out⟩,⟨by (with_reducible repeat (first|refine Q5 ?_ _|refine Q6 ?_|refine Q3 ?_ _));refine Qm ?_ ZJ.out _;(with_reducible repeat (first|refine Q5 ?_ _|refine Q6 ?_|refine Q3 ?_ _));refine Qm ?_ ZJ.out _;(with_reducible repeat (first|refine Q5 ?_ _|refine Q6 ?_|refine Q3 ?_ _));refine Qm ?_ ZJ.out _;(with_reducible repeat (first|refine Q5 ?_ _|refine Q6 ?_|refine Q3 ?_ _));refine Qm ?_ ZJ.out _;(with_reducible repeat (first|refine Q5 ?_ _|refine Q6 ?_|refine Q3 ?_ _));refine Qm ?_ ZJ.out _;(with_reducible repeat (first|refine Q5 ?_ _|refine Q6 ?_|refine Q3 ?_ _));refine Qm ?_ ZJ.out _;(with_reducible repeat (first|refine Q5 ?_ _|refine Q6 ?_|refine Q3 ?_ _));exact Y0.out⟩,⟨by (with_reducible repeat (first|refine Q5 ?_ _|refine Q6 ?_|refine Q3 ?_ _));refine QC (cs:=#[.int .i64 t162,.int .i64 qhs,.int .i64 t164,.int .i64 qlN,.int .i64 qoa,.int .i64 0]) ?_ 5 _ rfl;(with_reducible repeat (first|refine Q5 ?_ _|refine Q6 ?_|refine Q3 ?_ _));refine QC (cs:=#[.int .i64 t162,.int .i64 qhs,.int .i64 t164,.int .i64 qlN,.int .i64 0,.int .i64 0]) ?_ 4 _ rfl;(with_reducible repeat (first|refine Q5 ?_ _|refine Q6 ?_|refine Q3 ?_ _));refine QC (cs:=#[.int .i64 t162,.int .i64 qhs,.int .i64 t164,.int .i64 0,.int .i64 0,.int .i64 0]) ?_ 3 _ rfl;(with_reducible repeat (first|refine Q5 ?_ _|refine Q6 ?_|refine Q3 ?_ _));refine QC (cs:=#[.int .i64 t162,.int .i64 qhs,.int .i64 0,.int .i64 0,.int .i64 0,.int .i64 0]) ?_ 2 _ rfl;(with_reducible repeat (first|refine Q5 ?_ _|refine Q6 ?_|refine Q3 ?_ _));refine QC (cs:=#[.int .i64 t162,.int .i64 0,.int .i64 0,.int .i64 0,.int .i64 0,.int .i64 0]) ?_ 1 _ rfl;(with_reducible repeat (first|refine Q5 ?_ _|refine Q6 ?_|refine Q3 ?_ _));refine QC (cs:=#[.int .i64 0,.int .i64 0,.int .i64 0,.int .i64 0,.int .i64 0,.int .i64 0]) ?_ 0 _ rfl;(with_reducible repeat (first|refine Q5 ?_ _|refine Q6 ?_|refine Q3 ?_ _));exact Yt.out⟩,⟨by repeat (first|(with_reducible first|exact HB.out|apply Q2|apply Q1|apply Q4|refine Q7 ?_ ZN.out|refine Q7 ?_ ZW.out|refine Q7 ?_ O9.out)|exact HB.out)⟩⟩
        case round =>
         clear H';(try clear c1);(try clear p1);(try clear q1);(try clear hx1);(try clear c2);(try clear p2);(try clear c3);(try clear c6);(try clear p6);(try clear c7);(try clear c8);(try clear c11);(try clear c13);(try clear c14);(try clear p15);(try clear q15);(try clear qEU);(try clear p16);(try clear q16);(try clear hx16);(try clear c17);(try clear c20);(try clear c24);(try clear c25);(try clear c26);(try clear c26b0);(try clear c27);(try clear c27b0);(try clear c29);(try clear c30);(try clear c30b0);(try clear c32);(try clear c34);(try clear c38);(try clear c39);(try clear Og);(try clear Oh);(try clear OZ);(try clear U0);(try clear U1);(try clear U2);(try clear U3);(try clear U4);(try clear qbB);(try clear qbC);(try clear Oi);(try clear Oj);(try clear Ol);(try clear qbD);(try clear qbE);(try clear qmz);(try clear qmA);(try clear qmB);(try clear qmC);(try clear qmD);(try clear qbF);(try clear qbG);(try clear qbH);(try clear qmK);(try clear qmL);(try clear qmM);(try clear Xg);(try clear Xh);(try clear qaS);(try clear qdI);(try clear qdJ);(try clear Kk);(try clear Kl);(try clear Km);(try clear qdM);(try clear qdN);(try clear Om);(try clear On);(try clear Ub);(try clear Uc);(try clear Ud);(try clear Ue);(try clear Uf);(try clear Ug);(try clear qbM);(try clear qbN);(try clear Oo);(try clear Oq);(try clear Ot);(try clear qbO);(try clear qbP);(try clear qnb);(try clear qnc);(try clear qnd);(try clear qne);(try clear qnf);(try clear qbQ);(try clear qbR);(try clear qbS);(try clear qnm);(try clear qnn);(try clear qno);(try clear Xi);(try clear Xj);(try clear qaT);(try clear qdW);(try clear qdX);(try clear Ko);(try clear Kp);(try clear Kq);(try clear qd0);(try clear qd1);(try clear Uh);(try clear qb1);(try clear qfN);(try clear qnT);(try clear p2);(try clear qfR);(try clear qn2);obtain ⟨YT,J2,Zp,Zh,Ze,Za,Z5,Z0,rfl,HA,HK4,HO_13,YL,Y0,Yt,HB⟩:=hrel
         cases gk with
         | zero=>exact absurd HA.out (by simp [QH.l1])
         | succ k4 =>
          have H:=HA.out;clear HA;simp only [QH.l1] at H
          by_cases c41:J2<(l1.length:Int)
          ·
           rw [if_pos c41] at H;have c41b0:decide (J2<(l1.length:Int))=true:=decide_eq_true c41;clear c41
           by_cases c42:0≤J2
           ·
            rw [if_pos c42] at H;have c42b0:decide (0≤J2)=true:=decide_eq_true c42;clear c42
            by_cases c43:J2<(l1.length:Int)
            ·
             rw [if_pos c43] at H;have c43b0:decide (J2<(l1.length:Int))=true:=decide_eq_true c43;clear c43
             by_cases c44:J2<(l2.length:Int)
             ·
              rw [if_pos c44] at H;have c44b0:decide (J2<(l2.length:Int))=true:=decide_eq_true c44;clear c44;replace H:=Option.bind_eq_some_iff.mp H;obtain ⟨⟨t171,Ky,t173,Oc,t175,ON,UN⟩,qkk,H⟩:=H;replace H:(if YT.length<17592186044416 then (QH.l1 k4 l1 l2 (YT++[t171]) (l1.length:Int) (wrap64 (J2+1)) Qb Qk Qd Yb Ya Ky t173 Oc t175 ON UN) else (none))=some (r1,r2):=H;have A45:=Q0.mk qkk;clear qkk
              by_cases c46:YT.length<17592186044416
              ·
               rw [if_pos c46] at H;have qrg:=Q0.mk c46;clear c46;obtain ⟨qtS,qfd⟩:∃ y_:List Int,y_=(YT++[t171]):=⟨_,rfl⟩
               replace H:(QH.l1 k4 l1 l2 qtS (l1.length:Int) (wrap64 (J2+1)) Qb Qk Qd Yb Ya Ky t173 Oc t175 ON UN)=some (r1,r2):=by first|(rw [qfd];with_reducible exact H)|(have H2_:=(Option.bind_some _ _).symm.trans H;rw [qfd];with_reducible exact H2_)|(have H2_:=(Option.bind_some _ _).symm.trans H;with_reducible exact H2_)|with_reducible exact H|(rw [qfd];exact H)|exact H
               have qrh:=Q0.mk qfd;clear qfd;have H':=Q0.mk H;clear H
               try go_wp2
               have n0_:=Q0.mk (Kd.R_drew HO_13.out);have n1_:=Q0.mk (Q6 YL.out);have n2_:=Q0.mk (Q6 Y0.out);have n3_:=Q0.mk (Q6 Yt.out);have n4_:=Q0.mk (Q4 HB.out);clear HO_13 YL Y0 Yt HB;have HO_13:=n0_;have YL:=n1_;have Y0:=n2_;have Yt:=n3_;have HB:=n4_;clear n0_ n1_ n2_ n3_ n4_;have qqb:0≤(J2:Int):=of_decide_eq_true (by first|(with_reducible assumption)|assumption);have qqi:J2<(l1.length:Int):=of_decide_eq_true (by first|(with_reducible assumption)|assumption);obtain ⟨qkE,e169,qaq⟩:=Kd.at_int HR1.out J2 qqb qqi;have Zl:=qaq;cases e169;replace qaq:=(HB.out.cell (World.block_lt_of_cell? w _ qaq)).trans qaq;replace qqb:=eq_true qqb;replace qqi:=eq_true qqi;have qqc:0≤(J2:Int):=of_decide_eq_true (by first|(with_reducible assumption)|assumption);have qqj:J2<(l2.length:Int):=of_decide_eq_true (by first|(with_reducible assumption)|assumption);obtain ⟨qkF,e170,qar⟩:=Kd.at_int HR2.out J2 qqc qqj;have Zm:=qar;cases e170;replace qar:=(HB.out.cell (World.block_lt_of_cell? w _ qar)).trans qar;replace qqc:=eq_true qqc;replace qqj:=eq_true qqj;refine Kr (n:=18) (S:=fun w'=>w'.cell? ⟨YO,0,none⟩=some (.slice Y5 Qb.length QK)∧w'.cell? ⟨YO,1,none⟩=some (.slice Y2 Qk.length QM)∧w'.cell? ⟨YO,2,none⟩=some (.slice Y7 Qd.length QN)∧w'.cell? ⟨YO,3,none⟩=some (.int .i64 Yb)∧w'.cell? ⟨YO,4,none⟩=some (.int .i64 Ya)∧w'.cell? ⟨Yn,0,none⟩=some (.int .i64 Zp)∧w'.cell? ⟨Yn,1,none⟩=some (.int .i64 Zh)∧w'.cell? ⟨Yn,2,none⟩=some (.int .i64 Ze)∧w'.cell? ⟨Yn,3,none⟩=some (.int .i64 Za)∧w'.cell? ⟨Yn,4,none⟩=some (.int .i64 Z5)∧w'.cell? ⟨Yn,5,none⟩=some (.int .i64 Z0)∧w'.cell? (qkE.add (J2).toNat)=some (.int .i64 (rd l1 J2))∧w'.cell? (qkF.add (J2).toNat)=some (.int .i64 (rd l2 J2))) (ds:=[]) #[false,false,false,false,false,false,false,false,false,false,false,false,false,false,false,false,false,false] (by kernel_rfl) rfl rfl ⟨(Q8 Y0.out 0).trans rfl,(Q8 Y0.out 1).trans rfl,(Q8 Y0.out 2).trans rfl,(Q8 Y0.out 3).trans rfl,(Q8 Y0.out 4).trans rfl,(Q8 Yt.out 0).trans rfl,(Q8 Yt.out 1).trans rfl,(Q8 Yt.out 2).trans rfl,(Q8 Yt.out 3).trans rfl,(Q8 Yt.out 4).trans rfl,(Q8 Yt.out 5).trans rfl,((HB.out.cell (World.block_lt_of_cell? w _ Zl)).trans Zl),((HB.out.cell (World.block_lt_of_cell? w _ Zm)).trans Zm)⟩ (fun hHeld => ?_);refine JC QH.tab15 QH.bits15 (fun HT_ HW_ => ?_)
               generalize wr.drew=w47 at HO_13 YL Y0 Yt HB qaq qar hHeld ⊢
               refine Qx (i:=0) (N:=some 64) (v:=?_) (a':=?_) #[true,false,false,false,false,false,false,false,false,false,false,false,false,false,false,false,false,false] rfl rfl (Qr HT_.out (by kernel_rfl)) (fun _ _ _ h=>h) (Or.inl ⟨by rfl,?_⟩) ?_ ?_
               rotate_left
               ·
                intro w'
                go_simp
                with_reducible rfl
               rotate_left
               ·
                simp only [Act.put,List.setIfInBounds_toArray,List.set_cons_zero,List.set_cons_succ,Qp,Qq]
                rfl
               refine Qx (i:=3) (N:=some 67) (v:=?_) (a':=?_) #[true,false,false,true,false,false,false,false,false,false,false,false,false,false,false,false,false,false] rfl rfl (Qr HT_.out (by kernel_rfl)) (fun _ _ _ h=>h) (Or.inl ⟨by rfl,?_⟩) ?_ ?_
               rotate_left
               ·
                intro w'
                go_simp
                with_reducible rfl
               rotate_left
               ·
                simp only [Act.put,List.setIfInBounds_toArray,List.set_cons_zero,List.set_cons_succ,Qp,Qq]
                rfl
               refine Qx (i:=4) (N:=some 68) (v:=?_) (a':=?_) #[true,false,false,true,true,false,false,false,false,false,false,false,false,false,false,false,false,false] rfl rfl (Qr HT_.out (by kernel_rfl)) (fun _ _ _ h=>h) (Or.inl ⟨by rfl,?_⟩) ?_ ?_
               rotate_left
               ·
                intro w'
                go_simp
                with_reducible rfl
               rotate_left
               ·
                simp only [Act.put,List.setIfInBounds_toArray,List.set_cons_zero,List.set_cons_succ,Qp,Qq]
                rfl
               refine Qx (i:=5) (N:=some 69) (v:=?_) (a':=?_) #[true,false,false,true,true,true,false,false,false,false,false,false,false,false,false,false,false,false] rfl rfl (Qr HT_.out (by kernel_rfl)) (fun _ _ _ h=>h) (Or.inl ⟨by rfl,?_⟩) ?_ ?_
               rotate_left
               ·
                intro w'
                go_simp
                with_reducible rfl
               rotate_left
               ·
                simp only [Act.put,List.setIfInBounds_toArray,List.set_cons_zero,List.set_cons_succ,Qp,Qq]
                rfl
               refine Qx (i:=7) (N:=some 71) (v:=?_) (a':=?_) #[true,false,false,true,true,true,false,true,false,false,false,false,false,false,false,false,false,false] rfl rfl (Qr HT_.out (by kernel_rfl)) (fun _ _ _ h=>h) (Or.inl ⟨by rfl,?_⟩) ?_ ?_
               rotate_left
               ·
                intro w'
                go_simp
                with_reducible rfl
               rotate_left
               ·
                simp only [Act.put,List.setIfInBounds_toArray,List.set_cons_zero,List.set_cons_succ,Qp,Qq]
                rfl
               refine Qx (i:=8) (N:=some 72) (v:=?_) (a':=?_) #[true,false,false,true,true,true,false,true,true,false,false,false,false,false,false,false,false,false] rfl rfl (Qr HT_.out (by kernel_rfl)) (fun _ _ _ h=>h) (Or.inl ⟨by rfl,?_⟩) ?_ ?_
               rotate_left
               ·
                intro w'
                go_simp
                with_reducible rfl
               rotate_left
               ·
                simp only [Act.put,List.setIfInBounds_toArray,List.set_cons_zero,List.set_cons_succ,Qp,Qq]
                rfl
               refine Qx (i:=9) (N:=some 73) (v:=?_) (a':=?_) #[true,false,false,true,true,true,false,true,true,true,false,false,false,false,false,false,false,false] rfl rfl (Qr HT_.out (by kernel_rfl)) (fun _ _ _ h=>h) (Or.inl ⟨by rfl,?_⟩) ?_ ?_
               rotate_left
               ·
                intro w'
                go_simp
                with_reducible rfl
               rotate_left
               ·
                simp only [Act.put,List.setIfInBounds_toArray,List.set_cons_zero,List.set_cons_succ,Qp,Qq]
                rfl
               refine JG (i:=1) (N:=some 65) (v:=?_) (a':=?_) #[true,true,false,true,true,true,false,true,true,true,false,false,false,false,false,false,false,false] rfl rfl (Z8 HT_.out HW_.out (by kernel_rfl)) (fun _ _ _ h=>h) (Or.inl ⟨by rfl,?_⟩) hHeld ?_ ?_
               rotate_left
               ·
                rintro w' ⟨s0,s1,s2,s3,s4,s5,s6,s7,s8,s9,s10,s11,s12⟩
                go_simp
                with_reducible rfl
               rotate_left
               ·
                simp only [Act.put,List.setIfInBounds_toArray,List.set_cons_zero,List.set_cons_succ,Qp,Qq]
                rfl
               refine JG (i:=2) (N:=some 66) (v:=?_) (a':=?_) #[true,true,true,true,true,true,false,true,true,true,false,false,false,false,false,false,false,false] rfl rfl (Z8 HT_.out HW_.out (by kernel_rfl)) (fun _ _ _ h=>h) (Or.inl ⟨by rfl,?_⟩) hHeld ?_ ?_
               rotate_left
               ·
                rintro w' ⟨s0,s1,s2,s3,s4,s5,s6,s7,s8,s9,s10,s11,s12⟩
                go_simp
                with_reducible rfl
               rotate_left
               ·
                simp only [Act.put,List.setIfInBounds_toArray,List.set_cons_zero,List.set_cons_succ,Qp,Qq]
                rfl
               refine JG (i:=6) (N:=some 70) (v:=?_) (a':=?_) #[true,true,true,true,true,true,true,true,true,true,false,false,false,false,false,false,false,false] rfl rfl (Z8 HT_.out HW_.out (by kernel_rfl)) (fun _ _ _ h=>h) (Or.inl ⟨by rfl,?_⟩) hHeld ?_ ?_
               rotate_left
               ·
                rintro w' ⟨s0,s1,s2,s3,s4,s5,s6,s7,s8,s9,s10,s11,s12⟩
                go_simp
                with_reducible rfl
               rotate_left
               ·
                simp only [Act.put,List.setIfInBounds_toArray,List.set_cons_zero,List.set_cons_succ,Qp,Qq]
                rfl
               refine JG (i:=10) (N:=some 74) (v:=?_) (a':=?_) #[true,true,true,true,true,true,true,true,true,true,true,false,false,false,false,false,false,false] rfl rfl (Z8 HT_.out HW_.out (by kernel_rfl)) (fun _ _ _ h=>h) (Or.inl ⟨by rfl,?_⟩) hHeld ?_ ?_
               rotate_left
               ·
                rintro w' ⟨s0,s1,s2,s3,s4,s5,s6,s7,s8,s9,s10,s11,s12⟩
                go_simp
                with_reducible rfl
               rotate_left
               ·
                simp only [Act.put,List.setIfInBounds_toArray,List.set_cons_zero,List.set_cons_succ,Qp,Qq]
                rfl
               refine qpd (σ:=Nat) 2 #[true,true,true,true,true,true,true,true,true,true,true,true,true,true,true,true,false,false] (fun s_=>[(75,.tuple #[.int .i64 t171,.agg #[.int .i64 Ky,.int .i64 t173,.int .i64 Oc,.int .i64 t175,.int .i64 ON,.int .i64 UN]]),(16,.pointer (some ⟨s_,0,none⟩)),(63,.tuple #[.int .i64 t171,.agg #[.int .i64 Ky,.int .i64 t173,.int .i64 Oc,.int .i64 t175,.int .i64 ON,.int .i64 UN]]),(76,.int .i64 t171),(77,.agg #[.int .i64 Ky,.int .i64 t173,.int .i64 Oc,.int .i64 t175,.int .i64 ON,.int .i64 UN])]) (fun s_ w'=>(w'.cell? ⟨YO,0,none⟩=some (.slice Y5 Qb.length QK)∧w'.cell? ⟨YO,1,none⟩=some (.slice Y2 Qk.length QM)∧w'.cell? ⟨YO,2,none⟩=some (.slice Y7 Qd.length QN)∧w'.cell? ⟨YO,3,none⟩=some (.int .i64 Yb)∧w'.cell? ⟨YO,4,none⟩=some (.int .i64 Ya)∧w'.cell? ⟨Yn,0,none⟩=some (.int .i64 Zp)∧w'.cell? ⟨Yn,1,none⟩=some (.int .i64 Zh)∧w'.cell? ⟨Yn,2,none⟩=some (.int .i64 Ze)∧w'.cell? ⟨Yn,3,none⟩=some (.int .i64 Za)∧w'.cell? ⟨Yn,4,none⟩=some (.int .i64 Z5)∧w'.cell? ⟨Yn,5,none⟩=some (.int .i64 Z0)∧w'.cell? (qkE.add (J2).toNat)=some (.int .i64 (rd l1 J2))∧w'.cell? (qkF.add (J2).toNat)=some (.int .i64 (rd l2 J2)))∧(Kd.R (Kd.int .i64) 3 w' w.heap.size (fun k_=>(w.heap.size≤k_)) u13 YT)∧(w'.heap[ZQ]? = some (.cells #[.slice Y5 Qb.length QK,.slice Y2 Qk.length QM,.slice Y7 Qd.length QN,.int .i64 Yb,.int .i64 Ya] 39 (0,0)))∧(w'.heap[YO]? = some (.cells #[.slice Y5 Qb.length QK,.slice Y2 Qk.length QM,.slice Y7 Qd.length QN,.int .i64 Yb,.int .i64 Ya] 111 (0,0)))∧(w'.heap[Yn]? = some (.cells #[.int .i64 Zp,.int .i64 Zh,.int .i64 Ze,.int .i64 Za,.int .i64 Z5,.int .i64 Z0] 115 (0,0)))∧(w'.heap[s_]? = some (.cells #[.int .i64 0,.int .i64 0,.int .i64 0,.int .i64 0,.int .i64 0,.int .i64 0] 115 (0,0)))∧(w.heap.size≤s_)∧(w.heap.size≤s_)∧(ZQ≠s_)∧(s_≠ZQ)∧(YO≠s_)∧(s_≠YO)∧(Yn≠s_)∧(s_≠Yn)∧(Below w.heap.size w w')) ?_ ?_
               rotate_left
               ·
                intro hCont;refine two_ (i:=11) (j:=15) (Ni:=some 75) (Nj:=some 16) #[true,true,true,true,true,true,true,true,true,true,true,true,false,false,false,false,false,false] #[true,true,true,true,true,true,true,true,true,true,true,false,false,false,false,true,false,false] rfl rfl rfl rfl (qlQ HT_.out (by kernel_rfl)) (by decide) (by decide) (fun K hK => ?_) (fun K hK => ?_)
                ·
                 skip
                 refine qdz Try.func77 (by kernel_rfl) rfl #[.agg #[.slice Y5 Qb.length QK,.slice Y2 Qk.length QM,.slice Y7 Qd.length QN,.int .i64 Yb,.int .i64 Ya],.agg #[.int .i64 Zp,.int .i64 Zh,.int .i64 Ze,.int .i64 Za,.int .i64 Z5,.int .i64 Z0],.int .i64 (rd l1 J2),.int .i64 (rd l2 J2)] 64 (by rfl) rfl rfl rfl (by (try simp only [List.map_toArray,List.map_cons,List.map_nil]);first|done|rfl|(simp only [List.length_drop,List.length_take];rfl)) ?_
                 with_reducible refine (Zg.calls _ _ Qb _ _ Qk _ _ Qd Yb Ya Zp Zh Ze Za Z5 Z0 (rd l1 J2) (rd l2 J2) t171 Ky t173 Oc t175 ON UN _ ?side1 ?side2 ?side3 ?side4 ?side5 ?side6 A45.out).mono ?_
                 (case side1=>repeat (first|exact (Kd.C_below Jt.out HB.out)|(with_reducible refine Kd.C_alloc ?_ _)|(with_reducible refine Kd.C_drewN ?_ _)|(with_reducible refine Kd.C_drew ?_)))
                 (case side2=>exact JU.out)
                 (case side3=>repeat (first|exact (Kd.C_below JI.out HB.out)|(with_reducible refine Kd.C_alloc ?_ _)|(with_reducible refine Kd.C_drewN ?_ _)|(with_reducible refine Kd.C_drew ?_)))
                 (case side4=>exact JV.out)
                 (case side5=>repeat (first|exact (Kd.C_below JJ.out HB.out)|(with_reducible refine Kd.C_alloc ?_ _)|(with_reducible refine Kd.C_drewN ?_ _)|(with_reducible refine Kd.C_drew ?_)))
                 (case side6=>exact JW.out)
                 rintro e w48 ⟨rfl,hb⟩;refine ⟨_,rfl,?_⟩;have n0_:=Q0.mk (Kd.R_below (by (with_reducible repeat (first|apply Kd.R_alloc|apply Kd.R_drewN|apply Kd.R_drew));exact HO_13.out) hb);have n1_:=Q0.mk (Qf (g:=ZQ) (by (with_reducible repeat (first|refine Q5 ?_ _|refine Q6 ?_|refine Q3 ?_ _));exact YL.out) hb);have n2_:=Q0.mk (Qf (g:=YO) (by (with_reducible repeat (first|refine Q5 ?_ _|refine Q6 ?_|refine Q3 ?_ _));exact Y0.out) hb);have n3_:=Q0.mk (Qf (g:=Yn) (by (with_reducible repeat (first|refine Q5 ?_ _|refine Q6 ?_|refine Q3 ?_ _));exact Yt.out) hb);have n4_:=Q0.mk (Qi (by repeat (first|(with_reducible first|exact HB.out|apply Q2|apply Q1|apply Q4|refine Q7 ?_ ZN.out|refine Q7 ?_ ZW.out|refine Q7 ?_ O9.out)|exact HB.out)) hb);clear HO_13 YL Y0 Yt HB;have HO_13:=n0_;have YL:=n1_;have Y0:=n2_;have Yt:=n3_;have HB:=n4_;clear n0_ n1_ n2_ n3_ n4_
                 (try clear hb)
                 (try clear hb2)
                 (try clear hk)
                 (try clear hi)
                 refine hK.out _ _ ⟨(Q8 Y0.out 0).trans rfl,(Q8 Y0.out 1).trans rfl,(Q8 Y0.out 2).trans rfl,(Q8 Y0.out 3).trans rfl,(Q8 Y0.out 4).trans rfl,(Q8 Yt.out 0).trans rfl,(Q8 Yt.out 1).trans rfl,(Q8 Yt.out 2).trans rfl,(Q8 Yt.out 3).trans rfl,(Q8 Yt.out 4).trans rfl,(Q8 Yt.out 5).trans rfl,((HB.out.cell (World.block_lt_of_cell? w _ Zl)).trans Zl),((HB.out.cell (World.block_lt_of_cell? w _ Zm)).trans Zm)⟩ (fun hHeld => ?_);clear hK K;refine Jr (a':=?_) ?_ ?_
                 rotate_left
                 ·
                  show Act.put _ (some 75) _=_
                  simp only [Act.put,List.setIfInBounds_toArray,List.set_cons_zero,List.set_cons_succ,Qp,Qq]
                  rfl
                 refine Qx (i:=12) (N:=some 63) (v:=?_) (a':=?_) #[true,true,true,true,true,true,true,true,true,true,true,true,true,false,false,false,false,false] rfl rfl (Qr HT_.out (by kernel_rfl)) (fun _ _ _ h=>h) (Or.inl ⟨by rfl,?_⟩) ?_ ?_
                 rotate_left
                 ·
                  intro w'
                  go_simp
                  with_reducible rfl
                 rotate_left
                 ·
                  simp only [Act.put,List.setIfInBounds_toArray,List.set_cons_zero,List.set_cons_succ,Qp,Qq]
                  rfl
                 refine Qx (i:=13) (N:=some 76) (v:=?_) (a':=?_) #[true,true,true,true,true,true,true,true,true,true,true,true,true,true,false,false,false,false] rfl rfl (Qr HT_.out (by kernel_rfl)) (fun _ _ _ h=>h) (Or.inl ⟨by rfl,?_⟩) ?_ ?_
                 rotate_left
                 ·
                  intro w'
                  go_simp
                  with_reducible rfl
                 rotate_left
                 ·
                  simp only [Act.put,List.setIfInBounds_toArray,List.set_cons_zero,List.set_cons_succ,Qp,Qq]
                  rfl
                 refine Qx (i:=14) (N:=some 77) (v:=?_) (a':=?_) #[true,true,true,true,true,true,true,true,true,true,true,true,true,true,true,false,false,false] rfl rfl (Qr HT_.out (by kernel_rfl)) (fun _ _ _ h=>h) (Or.inl ⟨by rfl,?_⟩) ?_ ?_
                 rotate_left
                 ·
                  intro w'
                  go_simp
                  with_reducible rfl
                 rotate_left
                 ·
                  simp only [Act.put,List.setIfInBounds_toArray,List.set_cons_zero,List.set_cons_succ,Qp,Qq]
                  rfl
                 refine one_ (i:=15) (N:=some 16) #[true,true,true,true,true,true,true,true,true,true,true,true,true,true,true,true,false,false] rfl rfl (JE HT_.out (by kernel_rfl)) (by decide) (fun K hK => ?_);refine XG ?hg (N:=16) ?hd (cs:=#[.int .i64 0,.int .i64 0,.int .i64 0,.int .i64 0,.int .i64 0,.int .i64 0]) (t:=115) ?hr ?_;(case hd=>rfl);(case hg=>rfl);(case hr=>first|(go_simp;done)|(go_simp;rfl));intro QL hg w49 hbox hb;have n0_:=Q0.mk (Kd.R_below (by (with_reducible repeat (first|apply Kd.R_alloc|apply Kd.R_drewN|apply Kd.R_drew));exact HO_13.out) hb);have n1_:=Q0.mk (Qf (g:=ZQ) (by (with_reducible repeat (first|refine Q5 ?_ _|refine Q6 ?_|refine Q3 ?_ _));exact YL.out) hb);have n2_:=Q0.mk (Qf (g:=YO) (by (with_reducible repeat (first|refine Q5 ?_ _|refine Q6 ?_|refine Q3 ?_ _));exact Y0.out) hb);have n3_:=Q0.mk (Qf (g:=Yn) (by (with_reducible repeat (first|refine Q5 ?_ _|refine Q6 ?_|refine Q3 ?_ _));exact Yt.out) hb);have n4_:=Q0.mk (Qi (by repeat (first|(with_reducible first|exact HB.out|apply Q2|apply Q1|apply Q4|refine Q7 ?_ ZN.out|refine Q7 ?_ ZW.out|refine Q7 ?_ O9.out)|exact HB.out)) hb);have n5_:=Q0.mk (hbox);have n6_:=Q0.mk ((by rw [hg];exact (Qe (by repeat (first|(with_reducible first|exact HB.out|apply Q2|apply Q1|apply Q4|refine Q7 ?_ ZN.out|refine Q7 ?_ ZW.out|refine Q7 ?_ O9.out)|exact HB.out))):w.heap.size≤QL));have n7_:=n6_;have n8_:=Q0.mk ((by rw [hg];exact Nat.ne_of_lt (QO (g:=ZQ) (by (with_reducible repeat (first|refine Q5 ?_ _|refine Q6 ?_|refine Q3 ?_ _));exact YL.out)):ZQ≠QL));have n9_:=Q0.mk (n8_.out.symm);have n10_:=Q0.mk ((by rw [hg];exact Nat.ne_of_lt (QO (g:=YO) (by (with_reducible repeat (first|refine Q5 ?_ _|refine Q6 ?_|refine Q3 ?_ _));exact Y0.out)):YO≠QL));have n11_:=Q0.mk (n10_.out.symm);have n12_:=Q0.mk ((by rw [hg];exact Nat.ne_of_lt (QO (g:=Yn) (by (with_reducible repeat (first|refine Q5 ?_ _|refine Q6 ?_|refine Q3 ?_ _));exact Yt.out)):Yn≠QL));have n13_:=Q0.mk (n12_.out.symm);clear HO_13 YL Y0 Yt HB;have HO_13:=n0_;have YL:=n1_;have Y0:=n2_;have Yt:=n3_;have HB:=n4_;have Zy:=n5_;have Zu:=n6_;have W9:=n7_;have J6:=n8_;have Gd:=n9_;have Yk:=n10_;have Ge:=n11_;have Y6:=n12_;have Ye:=n13_;clear n0_ n1_ n2_ n3_ n4_ n5_ n6_ n7_ n8_ n9_ n10_ n11_ n12_ n13_ hb hbox hg;refine hK.out _ _ ⟨(Q8 Y0.out 0).trans rfl,(Q8 Y0.out 1).trans rfl,(Q8 Y0.out 2).trans rfl,(Q8 Y0.out 3).trans rfl,(Q8 Y0.out 4).trans rfl,(Q8 Yt.out 0).trans rfl,(Q8 Yt.out 1).trans rfl,(Q8 Yt.out 2).trans rfl,(Q8 Yt.out 3).trans rfl,(Q8 Yt.out 4).trans rfl,(Q8 Yt.out 5).trans rfl,((HB.out.cell (World.block_lt_of_cell? w _ Zl)).trans Zl),((HB.out.cell (World.block_lt_of_cell? w _ Zm)).trans Zm)⟩ (fun hHeld => ?_);clear hK K;refine Jr (a':=?_) ?_ ?_
                 rotate_left
                 ·
                  show Act.put _ (some 16) _=_
                  simp only [Act.put,List.setIfInBounds_toArray,List.set_cons_zero,List.set_cons_succ,Qp,Qq]
                  rfl
                 exact Jr (by simp only [W4,Act.put,List.setIfInBounds_toArray,List.set_cons_zero,List.set_cons_succ]) (hCont (QL) _ ⟨hHeld,(by (with_reducible repeat (first|apply Kd.R_alloc|apply Kd.R_drewN|apply Kd.R_drew));exact HO_13.out),(by (with_reducible repeat (first|refine Q5 ?_ _|refine Q6 ?_|refine Q3 ?_ _));exact YL.out),(by (with_reducible repeat (first|refine Q5 ?_ _|refine Q6 ?_|refine Q3 ?_ _));exact Y0.out),(by (with_reducible repeat (first|refine Q5 ?_ _|refine Q6 ?_|refine Q3 ?_ _));exact Yt.out),(by (with_reducible repeat (first|refine Q5 ?_ _|refine Q6 ?_|refine Q3 ?_ _));exact Zy.out),Zu.out,W9.out,J6.out,Gd.out,Yk.out,Ge.out,Y6.out,Ye.out,(by repeat (first|(with_reducible first|exact HB.out|apply Q2|apply Q1|apply Q4|refine Q7 ?_ ZN.out|refine Q7 ?_ ZW.out|refine Q7 ?_ O9.out|refine Q7 ?_ W9.out)|exact HB.out))⟩)
                skip
                refine XG ?hg (N:=16) ?hd (cs:=#[.int .i64 0,.int .i64 0,.int .i64 0,.int .i64 0,.int .i64 0,.int .i64 0]) (t:=115) ?hr ?_;(case hd=>rfl);(case hg=>rfl);(case hr=>first|(go_simp;done)|(go_simp;rfl));intro QL hg w48 hbox hb;have n0_:=Q0.mk (Kd.R_below (by (with_reducible repeat (first|apply Kd.R_alloc|apply Kd.R_drewN|apply Kd.R_drew));exact HO_13.out) hb);have n1_:=Q0.mk (Qf (g:=ZQ) (by (with_reducible repeat (first|refine Q5 ?_ _|refine Q6 ?_|refine Q3 ?_ _));exact YL.out) hb);have n2_:=Q0.mk (Qf (g:=YO) (by (with_reducible repeat (first|refine Q5 ?_ _|refine Q6 ?_|refine Q3 ?_ _));exact Y0.out) hb);have n3_:=Q0.mk (Qf (g:=Yn) (by (with_reducible repeat (first|refine Q5 ?_ _|refine Q6 ?_|refine Q3 ?_ _));exact Yt.out) hb);have n4_:=Q0.mk (Qi (by repeat (first|(with_reducible first|exact HB.out|apply Q2|apply Q1|apply Q4|refine Q7 ?_ ZN.out|refine Q7 ?_ ZW.out|refine Q7 ?_ O9.out)|exact HB.out)) hb);have n5_:=Q0.mk (hbox);have n6_:=Q0.mk ((by rw [hg];exact (Qe (by repeat (first|(with_reducible first|exact HB.out|apply Q2|apply Q1|apply Q4|refine Q7 ?_ ZN.out|refine Q7 ?_ ZW.out|refine Q7 ?_ O9.out)|exact HB.out))):w.heap.size≤QL));have n7_:=n6_;have n8_:=Q0.mk ((by rw [hg];exact Nat.ne_of_lt (QO (g:=ZQ) (by (with_reducible repeat (first|refine Q5 ?_ _|refine Q6 ?_|refine Q3 ?_ _));exact YL.out)):ZQ≠QL));have n9_:=Q0.mk (n8_.out.symm);have n10_:=Q0.mk ((by rw [hg];exact Nat.ne_of_lt (QO (g:=YO) (by (with_reducible repeat (first|refine Q5 ?_ _|refine Q6 ?_|refine Q3 ?_ _));exact Y0.out)):YO≠QL));have n11_:=Q0.mk (n10_.out.symm);have n12_:=Q0.mk ((by rw [hg];exact Nat.ne_of_lt (QO (g:=Yn) (by (with_reducible repeat (first|refine Q5 ?_ _|refine Q6 ?_|refine Q3 ?_ _));exact Yt.out)):Yn≠QL));have n13_:=Q0.mk (n12_.out.symm);clear HO_13 YL Y0 Yt HB;have HO_13:=n0_;have YL:=n1_;have Y0:=n2_;have Yt:=n3_;have HB:=n4_;have Zy:=n5_;have Zu:=n6_;have W9:=n7_;have J6:=n8_;have Gd:=n9_;have Yk:=n10_;have Ge:=n11_;have Y6:=n12_;have Ye:=n13_;clear n0_ n1_ n2_ n3_ n4_ n5_ n6_ n7_ n8_ n9_ n10_ n11_ n12_ n13_ hb hbox hg;refine hK.out _ _ ⟨(Q8 Y0.out 0).trans rfl,(Q8 Y0.out 1).trans rfl,(Q8 Y0.out 2).trans rfl,(Q8 Y0.out 3).trans rfl,(Q8 Y0.out 4).trans rfl,(Q8 Yt.out 0).trans rfl,(Q8 Yt.out 1).trans rfl,(Q8 Yt.out 2).trans rfl,(Q8 Yt.out 3).trans rfl,(Q8 Yt.out 4).trans rfl,(Q8 Yt.out 5).trans rfl,((HB.out.cell (World.block_lt_of_cell? w _ Zl)).trans Zl),((HB.out.cell (World.block_lt_of_cell? w _ Zm)).trans Zm)⟩ (fun hHeld => ?_);clear hK K;refine Jr (a':=?_) ?_ ?_
                rotate_left
                ·
                 show Act.put _ (some 16) _=_
                 simp only [Act.put,List.setIfInBounds_toArray,List.set_cons_zero,List.set_cons_succ,Qp,Qq]
                 rfl
                refine one_ (i:=11) (N:=some 75) #[true,true,true,true,true,true,true,true,true,true,true,true,false,false,false,true,false,false] rfl rfl (JE HT_.out (by kernel_rfl)) (by decide) (fun K hK => ?_);refine qdz Try.func77 (by kernel_rfl) rfl #[.agg #[.slice Y5 Qb.length QK,.slice Y2 Qk.length QM,.slice Y7 Qd.length QN,.int .i64 Yb,.int .i64 Ya],.agg #[.int .i64 Zp,.int .i64 Zh,.int .i64 Ze,.int .i64 Za,.int .i64 Z5,.int .i64 Z0],.int .i64 (rd l1 J2),.int .i64 (rd l2 J2)] 64 (by rfl) rfl rfl rfl (by (try simp only [List.map_toArray,List.map_cons,List.map_nil]);first|done|rfl|(simp only [List.length_drop,List.length_take];rfl)) ?_
                with_reducible refine (Zg.calls _ _ Qb _ _ Qk _ _ Qd Yb Ya Zp Zh Ze Za Z5 Z0 (rd l1 J2) (rd l2 J2) t171 Ky t173 Oc t175 ON UN _ ?side1 ?side2 ?side3 ?side4 ?side5 ?side6 A45.out).mono ?_
                (case side1=>repeat (first|exact (Kd.C_below Jt.out HB.out)|(with_reducible refine Kd.C_alloc ?_ _)|(with_reducible refine Kd.C_drewN ?_ _)|(with_reducible refine Kd.C_drew ?_)))
                (case side2=>exact JU.out)
                (case side3=>repeat (first|exact (Kd.C_below JI.out HB.out)|(with_reducible refine Kd.C_alloc ?_ _)|(with_reducible refine Kd.C_drewN ?_ _)|(with_reducible refine Kd.C_drew ?_)))
                (case side4=>exact JV.out)
                (case side5=>repeat (first|exact (Kd.C_below JJ.out HB.out)|(with_reducible refine Kd.C_alloc ?_ _)|(with_reducible refine Kd.C_drewN ?_ _)|(with_reducible refine Kd.C_drew ?_)))
                (case side6=>exact JW.out)
                rintro e w49 ⟨rfl,hb⟩;refine ⟨_,rfl,?_⟩;have n0_:=Q0.mk (Kd.R_below (by (with_reducible repeat (first|apply Kd.R_alloc|apply Kd.R_drewN|apply Kd.R_drew));exact HO_13.out) hb);have n1_:=Q0.mk (Qf (g:=ZQ) (by (with_reducible repeat (first|refine Q5 ?_ _|refine Q6 ?_|refine Q3 ?_ _));exact YL.out) hb);have n2_:=Q0.mk (Qf (g:=YO) (by (with_reducible repeat (first|refine Q5 ?_ _|refine Q6 ?_|refine Q3 ?_ _));exact Y0.out) hb);have n3_:=Q0.mk (Qf (g:=Yn) (by (with_reducible repeat (first|refine Q5 ?_ _|refine Q6 ?_|refine Q3 ?_ _));exact Yt.out) hb);have n4_:=Q0.mk (Qf (g:=QL) (by (with_reducible repeat (first|refine Q5 ?_ _|refine Q6 ?_|refine Q3 ?_ _));exact Zy.out) hb);have n5_:=Q0.mk (Qi (by repeat (first|(with_reducible first|exact HB.out|apply Q2|apply Q1|apply Q4|refine Q7 ?_ ZN.out|refine Q7 ?_ ZW.out|refine Q7 ?_ O9.out|refine Q7 ?_ W9.out)|exact HB.out)) hb);clear HO_13 YL Y0 Yt Zy HB;have HO_13:=n0_;have YL:=n1_;have Y0:=n2_;have Yt:=n3_;have Zy:=n4_;have HB:=n5_;clear n0_ n1_ n2_ n3_ n4_ n5_
                (try clear hb)
                (try clear hb2)
                (try clear hk)
                (try clear hi)
                refine hK.out _ _ ⟨(Q8 Y0.out 0).trans rfl,(Q8 Y0.out 1).trans rfl,(Q8 Y0.out 2).trans rfl,(Q8 Y0.out 3).trans rfl,(Q8 Y0.out 4).trans rfl,(Q8 Yt.out 0).trans rfl,(Q8 Yt.out 1).trans rfl,(Q8 Yt.out 2).trans rfl,(Q8 Yt.out 3).trans rfl,(Q8 Yt.out 4).trans rfl,(Q8 Yt.out 5).trans rfl,((HB.out.cell (World.block_lt_of_cell? w _ Zl)).trans Zl),((HB.out.cell (World.block_lt_of_cell? w _ Zm)).trans Zm)⟩ (fun hHeld => ?_);clear hK K;refine Jr (a':=?_) ?_ ?_
                rotate_left
                ·
                 show Act.put _ (some 75) _=_
                 simp only [Act.put,List.setIfInBounds_toArray,List.set_cons_zero,List.set_cons_succ,Qp,Qq]
                 rfl
                refine Qx (i:=12) (N:=some 63) (v:=?_) (a':=?_) #[true,true,true,true,true,true,true,true,true,true,true,true,true,false,false,true,false,false] rfl rfl (Qr HT_.out (by kernel_rfl)) (fun _ _ _ h=>h) (Or.inl ⟨by rfl,?_⟩) ?_ ?_
                rotate_left
                ·
                 intro w'
                 go_simp
                 with_reducible rfl
                rotate_left
                ·
                 simp only [Act.put,List.setIfInBounds_toArray,List.set_cons_zero,List.set_cons_succ,Qp,Qq]
                 rfl
                refine Qx (i:=13) (N:=some 76) (v:=?_) (a':=?_) #[true,true,true,true,true,true,true,true,true,true,true,true,true,true,false,true,false,false] rfl rfl (Qr HT_.out (by kernel_rfl)) (fun _ _ _ h=>h) (Or.inl ⟨by rfl,?_⟩) ?_ ?_
                rotate_left
                ·
                 intro w'
                 go_simp
                 with_reducible rfl
                rotate_left
                ·
                 simp only [Act.put,List.setIfInBounds_toArray,List.set_cons_zero,List.set_cons_succ,Qp,Qq]
                 rfl
                refine Qx (i:=14) (N:=some 77) (v:=?_) (a':=?_) #[true,true,true,true,true,true,true,true,true,true,true,true,true,true,true,true,false,false] rfl rfl (Qr HT_.out (by kernel_rfl)) (fun _ _ _ h=>h) (Or.inl ⟨by rfl,?_⟩) ?_ ?_
                rotate_left
                ·
                 intro w'
                 go_simp
                 with_reducible rfl
                rotate_left
                ·
                 simp only [Act.put,List.setIfInBounds_toArray,List.set_cons_zero,List.set_cons_succ,Qp,Qq]
                 rfl
                exact Jr (by simp only [W4,Act.put,List.setIfInBounds_toArray,List.set_cons_zero,List.set_cons_succ]) (hCont (QL) _ ⟨hHeld,(by (with_reducible repeat (first|apply Kd.R_alloc|apply Kd.R_drewN|apply Kd.R_drew));exact HO_13.out),(by (with_reducible repeat (first|refine Q5 ?_ _|refine Q6 ?_|refine Q3 ?_ _));exact YL.out),(by (with_reducible repeat (first|refine Q5 ?_ _|refine Q6 ?_|refine Q3 ?_ _));exact Y0.out),(by (with_reducible repeat (first|refine Q5 ?_ _|refine Q6 ?_|refine Q3 ?_ _));exact Yt.out),(by (with_reducible repeat (first|refine Q5 ?_ _|refine Q6 ?_|refine Q3 ?_ _));exact Zy.out),Zu.out,W9.out,J6.out,Gd.out,Yk.out,Ge.out,Y6.out,Ye.out,(by repeat (first|(with_reducible first|exact HB.out|apply Q2|apply Q1|apply Q4|refine Q7 ?_ ZN.out|refine Q7 ?_ ZW.out|refine Q7 ?_ O9.out|refine Q7 ?_ W9.out)|exact HB.out))⟩)
               rintro QL w50 ⟨hS_,h0_,h1_,h2_,h3_,h4_,h5_,h6_,h7_,h8_,h9_,h10_,h11_,h12_,h13_⟩;have n0_:Q0 (Kd.R (Kd.int .i64) 3 w50 w.heap.size (fun k_=>(w.heap.size≤k_)) u13 YT):=⟨h0_⟩;have n1_:Q0 (w50.heap[ZQ]? = some (.cells #[.slice Y5 Qb.length QK,.slice Y2 Qk.length QM,.slice Y7 Qd.length QN,.int .i64 Yb,.int .i64 Ya] 39 (0,0))):=⟨h1_⟩;have n2_:Q0 (w50.heap[YO]? = some (.cells #[.slice Y5 Qb.length QK,.slice Y2 Qk.length QM,.slice Y7 Qd.length QN,.int .i64 Yb,.int .i64 Ya] 111 (0,0))):=⟨h2_⟩;have n3_:Q0 (w50.heap[Yn]? = some (.cells #[.int .i64 Zp,.int .i64 Zh,.int .i64 Ze,.int .i64 Za,.int .i64 Z5,.int .i64 Z0] 115 (0,0))):=⟨h3_⟩;have n4_:Q0 (w50.heap[QL]? = some (.cells #[.int .i64 0,.int .i64 0,.int .i64 0,.int .i64 0,.int .i64 0,.int .i64 0] 115 (0,0))):=⟨h4_⟩;have n5_:Q0 (w.heap.size≤QL):=⟨h5_⟩;have n6_:Q0 (w.heap.size≤QL):=⟨h6_⟩;have n7_:Q0 (ZQ≠QL):=⟨h7_⟩;have n8_:Q0 (QL≠ZQ):=⟨h8_⟩;have n9_:Q0 (YO≠QL):=⟨h9_⟩;have n10_:Q0 (QL≠YO):=⟨h10_⟩;have n11_:Q0 (Yn≠QL):=⟨h11_⟩;have n12_:Q0 (QL≠Yn):=⟨h12_⟩;have n13_:Q0 (Below w.heap.size w w50):=⟨h13_⟩;clear HO_13 YL Y0 Yt HB h0_ h1_ h2_ h3_ h4_ h5_ h6_ h7_ h8_ h9_ h10_ h11_ h12_ h13_;have HO_13:=n0_;have YL:=n1_;have Y0:=n2_;have Yt:=n3_;have Zy:=n4_;have Zu:=n5_;have W9:=n6_;have J6:=n7_;have Gd:=n8_;have Yk:=n9_;have Ge:=n10_;have Y6:=n11_;have Ye:=n12_;have HB:=n13_;clear n0_ n1_ n2_ n3_ n4_ n5_ n6_ n7_ n8_ n9_ n10_ n11_ n12_ n13_;have hHeld:w50.cell? ⟨YO,0,none⟩=some (.slice Y5 Qb.length QK)∧w50.cell? ⟨YO,1,none⟩=some (.slice Y2 Qk.length QM)∧w50.cell? ⟨YO,2,none⟩=some (.slice Y7 Qd.length QN)∧w50.cell? ⟨YO,3,none⟩=some (.int .i64 Yb)∧w50.cell? ⟨YO,4,none⟩=some (.int .i64 Ya)∧w50.cell? ⟨Yn,0,none⟩=some (.int .i64 Zp)∧w50.cell? ⟨Yn,1,none⟩=some (.int .i64 Zh)∧w50.cell? ⟨Yn,2,none⟩=some (.int .i64 Ze)∧w50.cell? ⟨Yn,3,none⟩=some (.int .i64 Za)∧w50.cell? ⟨Yn,4,none⟩=some (.int .i64 Z5)∧w50.cell? ⟨Yn,5,none⟩=some (.int .i64 Z0)∧w50.cell? (qkE.add (J2).toNat)=some (.int .i64 (rd l1 J2))∧w50.cell? (qkF.add (J2).toNat)=some (.int .i64 (rd l2 J2)):=hS_;refine Jr (a':=?_) ?_ ?_
               rotate_left
               ·
                simp only [W4,Act.put,List.setIfInBounds_toArray,List.set_cons_zero,List.set_cons_succ]
                rfl
               refine Qx (i:=16) (N:=some 15) (v:=?_) (a':=?_) #[true,true,true,true,true,true,true,true,true,true,true,true,true,true,true,true,true,false] rfl rfl (Qr HT_.out (by kernel_rfl)) (fun _ _ _ h=>h) (Or.inl ⟨by rfl,?_⟩) ?_ ?_
               rotate_left
               ·
                intro w'
                go_simp
                with_reducible rfl
               rotate_left
               ·
                simp only [Act.put,List.setIfInBounds_toArray,List.set_cons_zero,List.set_cons_succ,Qp,Qq]
                rfl
               refine one_ (i:=17) (N:=none) #[true,true,true,true,true,true,true,true,true,true,true,true,true,true,true,true,true,true] rfl rfl (JE HT_.out (by kernel_rfl)) (by decide) (fun K hK => ?_);have qEF:w50.cell? ⟨QL,0,none⟩=some (.int .i64 0):=(Q8 Zy.out 0).trans rfl;have qCe:=Qa Zy.out 0;have qy9:=J6.out;have qza:=Yk.out;have qzb:=Y6.out;have qyn:=Gd.out;have qyo:=Ge.out;have qyp:=Ye.out;have qEG:w50.cell? ⟨QL,1,none⟩=some (.int .i64 0):=(Q8 Zy.out 1).trans rfl;have qCf:=Qa Zy.out 1;have qzc:=J6.out;have qzd:=Yk.out;have qze:=Y6.out;have qyq:=Gd.out;have qyr:=Ge.out;have qys:=Ye.out;have qEH:w50.cell? ⟨QL,2,none⟩=some (.int .i64 0):=(Q8 Zy.out 2).trans rfl;have qCg:=Qa Zy.out 2;have qzf:=J6.out;have qzg:=Yk.out;have qzh:=Y6.out;have qyt:=Gd.out;have qyu:=Ge.out;have qyv:=Ye.out;have qEI:w50.cell? ⟨QL,3,none⟩=some (.int .i64 0):=(Q8 Zy.out 3).trans rfl;have qCh:=Qa Zy.out 3;have qzi:=J6.out;have qzj:=Yk.out;have qzk:=Y6.out;have qyw:=Gd.out;have qyx:=Ge.out;have qyy:=Ye.out;have qEJ:w50.cell? ⟨QL,4,none⟩=some (.int .i64 0):=(Q8 Zy.out 4).trans rfl;have qCi:=Qa Zy.out 4;have qzl:=J6.out;have qzm:=Yk.out;have qzn:=Y6.out;have qyz:=Gd.out;have qyA:=Ge.out;have qyB:=Ye.out;have qEK:w50.cell? ⟨QL,5,none⟩=some (.int .i64 0):=(Q8 Zy.out 5).trans rfl;have qCj:=Qa Zy.out 5;have qzo:=J6.out;have qzp:=Yk.out;have qzq:=Y6.out;have qyC:=Gd.out;have qyD:=Ge.out;have qyE:=Ye.out;refine qlI (w1:=?_) (by rfl) rfl ?_ ?_
               rotate_left
               ·
                go_simp
                rfl
               refine hK.out _ _ ⟨((Ql (p:=⟨QL,_,none⟩) Yk.out _).trans (((Ql (p:=⟨QL,_,none⟩) Yk.out _).trans (((Ql (p:=⟨QL,_,none⟩) Yk.out _).trans (((Ql (p:=⟨QL,_,none⟩) Yk.out _).trans (((Ql (p:=⟨QL,_,none⟩) Yk.out _).trans (((Ql (p:=⟨QL,_,none⟩) Yk.out _).trans (hHeld.1)))))))))))),((Ql (p:=⟨QL,_,none⟩) Yk.out _).trans (((Ql (p:=⟨QL,_,none⟩) Yk.out _).trans (((Ql (p:=⟨QL,_,none⟩) Yk.out _).trans (((Ql (p:=⟨QL,_,none⟩) Yk.out _).trans (((Ql (p:=⟨QL,_,none⟩) Yk.out _).trans (((Ql (p:=⟨QL,_,none⟩) Yk.out _).trans (hHeld.2.1)))))))))))),((Ql (p:=⟨QL,_,none⟩) Yk.out _).trans (((Ql (p:=⟨QL,_,none⟩) Yk.out _).trans (((Ql (p:=⟨QL,_,none⟩) Yk.out _).trans (((Ql (p:=⟨QL,_,none⟩) Yk.out _).trans (((Ql (p:=⟨QL,_,none⟩) Yk.out _).trans (((Ql (p:=⟨QL,_,none⟩) Yk.out _).trans (hHeld.2.2.1)))))))))))),((Ql (p:=⟨QL,_,none⟩) Yk.out _).trans (((Ql (p:=⟨QL,_,none⟩) Yk.out _).trans (((Ql (p:=⟨QL,_,none⟩) Yk.out _).trans (((Ql (p:=⟨QL,_,none⟩) Yk.out _).trans (((Ql (p:=⟨QL,_,none⟩) Yk.out _).trans (((Ql (p:=⟨QL,_,none⟩) Yk.out _).trans (hHeld.2.2.2.1)))))))))))),((Ql (p:=⟨QL,_,none⟩) Yk.out _).trans (((Ql (p:=⟨QL,_,none⟩) Yk.out _).trans (((Ql (p:=⟨QL,_,none⟩) Yk.out _).trans (((Ql (p:=⟨QL,_,none⟩) Yk.out _).trans (((Ql (p:=⟨QL,_,none⟩) Yk.out _).trans (((Ql (p:=⟨QL,_,none⟩) Yk.out _).trans (hHeld.2.2.2.2.1)))))))))))),((Ql (p:=⟨QL,_,none⟩) Y6.out _).trans (((Ql (p:=⟨QL,_,none⟩) Y6.out _).trans (((Ql (p:=⟨QL,_,none⟩) Y6.out _).trans (((Ql (p:=⟨QL,_,none⟩) Y6.out _).trans (((Ql (p:=⟨QL,_,none⟩) Y6.out _).trans (((Ql (p:=⟨QL,_,none⟩) Y6.out _).trans (hHeld.2.2.2.2.2.1)))))))))))),((Ql (p:=⟨QL,_,none⟩) Y6.out _).trans (((Ql (p:=⟨QL,_,none⟩) Y6.out _).trans (((Ql (p:=⟨QL,_,none⟩) Y6.out _).trans (((Ql (p:=⟨QL,_,none⟩) Y6.out _).trans (((Ql (p:=⟨QL,_,none⟩) Y6.out _).trans (((Ql (p:=⟨QL,_,none⟩) Y6.out _).trans (hHeld.2.2.2.2.2.2.1)))))))))))),((Ql (p:=⟨QL,_,none⟩) Y6.out _).trans (((Ql (p:=⟨QL,_,none⟩) Y6.out _).trans (((Ql (p:=⟨QL,_,none⟩) Y6.out _).trans (((Ql (p:=⟨QL,_,none⟩) Y6.out _).trans (((Ql (p:=⟨QL,_,none⟩) Y6.out _).trans (((Ql (p:=⟨QL,_,none⟩) Y6.out _).trans (hHeld.2.2.2.2.2.2.2.1)))))))))))),((Ql (p:=⟨QL,_,none⟩) Y6.out _).trans (((Ql (p:=⟨QL,_,none⟩) Y6.out _).trans (((Ql (p:=⟨QL,_,none⟩) Y6.out _).trans (((Ql (p:=⟨QL,_,none⟩) Y6.out _).trans (((Ql (p:=⟨QL,_,none⟩) Y6.out _).trans (((Ql (p:=⟨QL,_,none⟩) Y6.out _).trans (hHeld.2.2.2.2.2.2.2.2.1)))))))))))),((Ql (p:=⟨QL,_,none⟩) Y6.out _).trans (((Ql (p:=⟨QL,_,none⟩) Y6.out _).trans (((Ql (p:=⟨QL,_,none⟩) Y6.out _).trans (((Ql (p:=⟨QL,_,none⟩) Y6.out _).trans (((Ql (p:=⟨QL,_,none⟩) Y6.out _).trans (((Ql (p:=⟨QL,_,none⟩) Y6.out _).trans (hHeld.2.2.2.2.2.2.2.2.2.1)))))))))))),((Ql (p:=⟨QL,_,none⟩) Y6.out _).trans (((Ql (p:=⟨QL,_,none⟩) Y6.out _).trans (((Ql (p:=⟨QL,_,none⟩) Y6.out _).trans (((Ql (p:=⟨QL,_,none⟩) Y6.out _).trans (((Ql (p:=⟨QL,_,none⟩) Y6.out _).trans (((Ql (p:=⟨QL,_,none⟩) Y6.out _).trans (hHeld.2.2.2.2.2.2.2.2.2.2.1)))))))))))),((Ql (p:=⟨QL,_,none⟩) (by first|exact Nat.ne_of_lt (Nat.lt_of_lt_of_le (by have:=World.block_lt_of_cell? _ _ Zl;first|rwa [Qh] at this|exact this) Zu.out)|(rw [Qh];exact Nat.ne_of_lt (Nat.lt_of_lt_of_le (by have:=World.block_lt_of_cell? _ _ Zl;first|rwa [Qh] at this|exact this) Zu.out))|(show (Addr.add _ _).block≠_;rw [Qh];exact Nat.ne_of_lt (Nat.lt_of_lt_of_le (by have:=World.block_lt_of_cell? _ _ Zl;first|rwa [Qh] at this|exact this) Zu.out))|(dsimp only;exact Nat.ne_of_lt (Nat.lt_of_lt_of_le (by have:=World.block_lt_of_cell? _ _ Zl;first|rwa [Qh] at this|exact this) Zu.out))) _).trans (((Ql (p:=⟨QL,_,none⟩) (by first|exact Nat.ne_of_lt (Nat.lt_of_lt_of_le (by have:=World.block_lt_of_cell? _ _ Zl;first|rwa [Qh] at this|exact this) Zu.out)|(rw [Qh];exact Nat.ne_of_lt (Nat.lt_of_lt_of_le (by have:=World.block_lt_of_cell? _ _ Zl;first|rwa [Qh] at this|exact this) Zu.out))|(show (Addr.add _ _).block≠_;rw [Qh];exact Nat.ne_of_lt (Nat.lt_of_lt_of_le (by have:=World.block_lt_of_cell? _ _ Zl;first|rwa [Qh] at this|exact this) Zu.out))|(dsimp only;exact Nat.ne_of_lt (Nat.lt_of_lt_of_le (by have:=World.block_lt_of_cell? _ _ Zl;first|rwa [Qh] at this|exact this) Zu.out))) _).trans (((Ql (p:=⟨QL,_,none⟩) (by first|exact Nat.ne_of_lt (Nat.lt_of_lt_of_le (by have:=World.block_lt_of_cell? _ _ Zl;first|rwa [Qh] at this|exact this) Zu.out)|(rw [Qh];exact Nat.ne_of_lt (Nat.lt_of_lt_of_le (by have:=World.block_lt_of_cell? _ _ Zl;first|rwa [Qh] at this|exact this) Zu.out))|(show (Addr.add _ _).block≠_;rw [Qh];exact Nat.ne_of_lt (Nat.lt_of_lt_of_le (by have:=World.block_lt_of_cell? _ _ Zl;first|rwa [Qh] at this|exact this) Zu.out))|(dsimp only;exact Nat.ne_of_lt (Nat.lt_of_lt_of_le (by have:=World.block_lt_of_cell? _ _ Zl;first|rwa [Qh] at this|exact this) Zu.out))) _).trans (((Ql (p:=⟨QL,_,none⟩) (by first|exact Nat.ne_of_lt (Nat.lt_of_lt_of_le (by have:=World.block_lt_of_cell? _ _ Zl;first|rwa [Qh] at this|exact this) Zu.out)|(rw [Qh];exact Nat.ne_of_lt (Nat.lt_of_lt_of_le (by have:=World.block_lt_of_cell? _ _ Zl;first|rwa [Qh] at this|exact this) Zu.out))|(show (Addr.add _ _).block≠_;rw [Qh];exact Nat.ne_of_lt (Nat.lt_of_lt_of_le (by have:=World.block_lt_of_cell? _ _ Zl;first|rwa [Qh] at this|exact this) Zu.out))|(dsimp only;exact Nat.ne_of_lt (Nat.lt_of_lt_of_le (by have:=World.block_lt_of_cell? _ _ Zl;first|rwa [Qh] at this|exact this) Zu.out))) _).trans (((Ql (p:=⟨QL,_,none⟩) (by first|exact Nat.ne_of_lt (Nat.lt_of_lt_of_le (by have:=World.block_lt_of_cell? _ _ Zl;first|rwa [Qh] at this|exact this) Zu.out)|(rw [Qh];exact Nat.ne_of_lt (Nat.lt_of_lt_of_le (by have:=World.block_lt_of_cell? _ _ Zl;first|rwa [Qh] at this|exact this) Zu.out))|(show (Addr.add _ _).block≠_;rw [Qh];exact Nat.ne_of_lt (Nat.lt_of_lt_of_le (by have:=World.block_lt_of_cell? _ _ Zl;first|rwa [Qh] at this|exact this) Zu.out))|(dsimp only;exact Nat.ne_of_lt (Nat.lt_of_lt_of_le (by have:=World.block_lt_of_cell? _ _ Zl;first|rwa [Qh] at this|exact this) Zu.out))) _).trans (((Ql (p:=⟨QL,_,none⟩) (by first|exact Nat.ne_of_lt (Nat.lt_of_lt_of_le (by have:=World.block_lt_of_cell? _ _ Zl;first|rwa [Qh] at this|exact this) Zu.out)|(rw [Qh];exact Nat.ne_of_lt (Nat.lt_of_lt_of_le (by have:=World.block_lt_of_cell? _ _ Zl;first|rwa [Qh] at this|exact this) Zu.out))|(show (Addr.add _ _).block≠_;rw [Qh];exact Nat.ne_of_lt (Nat.lt_of_lt_of_le (by have:=World.block_lt_of_cell? _ _ Zl;first|rwa [Qh] at this|exact this) Zu.out))|(dsimp only;exact Nat.ne_of_lt (Nat.lt_of_lt_of_le (by have:=World.block_lt_of_cell? _ _ Zl;first|rwa [Qh] at this|exact this) Zu.out))) _).trans (hHeld.2.2.2.2.2.2.2.2.2.2.2.1)))))))))))),((Ql (p:=⟨QL,_,none⟩) (by first|exact Nat.ne_of_lt (Nat.lt_of_lt_of_le (by have:=World.block_lt_of_cell? _ _ Zm;first|rwa [Qh] at this|exact this) Zu.out)|(rw [Qh];exact Nat.ne_of_lt (Nat.lt_of_lt_of_le (by have:=World.block_lt_of_cell? _ _ Zm;first|rwa [Qh] at this|exact this) Zu.out))|(show (Addr.add _ _).block≠_;rw [Qh];exact Nat.ne_of_lt (Nat.lt_of_lt_of_le (by have:=World.block_lt_of_cell? _ _ Zm;first|rwa [Qh] at this|exact this) Zu.out))|(dsimp only;exact Nat.ne_of_lt (Nat.lt_of_lt_of_le (by have:=World.block_lt_of_cell? _ _ Zm;first|rwa [Qh] at this|exact this) Zu.out))) _).trans (((Ql (p:=⟨QL,_,none⟩) (by first|exact Nat.ne_of_lt (Nat.lt_of_lt_of_le (by have:=World.block_lt_of_cell? _ _ Zm;first|rwa [Qh] at this|exact this) Zu.out)|(rw [Qh];exact Nat.ne_of_lt (Nat.lt_of_lt_of_le (by have:=World.block_lt_of_cell? _ _ Zm;first|rwa [Qh] at this|exact this) Zu.out))|(show (Addr.add _ _).block≠_;rw [Qh];exact Nat.ne_of_lt (Nat.lt_of_lt_of_le (by have:=World.block_lt_of_cell? _ _ Zm;first|rwa [Qh] at this|exact this) Zu.out))|(dsimp only;exact Nat.ne_of_lt (Nat.lt_of_lt_of_le (by have:=World.block_lt_of_cell? _ _ Zm;first|rwa [Qh] at this|exact this) Zu.out))) _).trans (((Ql (p:=⟨QL,_,none⟩) (by first|exact Nat.ne_of_lt (Nat.lt_of_lt_of_le (by have:=World.block_lt_of_cell? _ _ Zm;first|rwa [Qh] at this|exact this) Zu.out)|(rw [Qh];exact Nat.ne_of_lt (Nat.lt_of_lt_of_le (by have:=World.block_lt_of_cell? _ _ Zm;first|rwa [Qh] at this|exact this) Zu.out))|(show (Addr.add _ _).block≠_;rw [Qh];exact Nat.ne_of_lt (Nat.lt_of_lt_of_le (by have:=World.block_lt_of_cell? _ _ Zm;first|rwa [Qh] at this|exact this) Zu.out))|(dsimp only;exact Nat.ne_of_lt (Nat.lt_of_lt_of_le (by have:=World.block_lt_of_cell? _ _ Zm;first|rwa [Qh] at this|exact this) Zu.out))) _).trans (((Ql (p:=⟨QL,_,none⟩) (by first|exact Nat.ne_of_lt (Nat.lt_of_lt_of_le (by have:=World.block_lt_of_cell? _ _ Zm;first|rwa [Qh] at this|exact this) Zu.out)|(rw [Qh];exact Nat.ne_of_lt (Nat.lt_of_lt_of_le (by have:=World.block_lt_of_cell? _ _ Zm;first|rwa [Qh] at this|exact this) Zu.out))|(show (Addr.add _ _).block≠_;rw [Qh];exact Nat.ne_of_lt (Nat.lt_of_lt_of_le (by have:=World.block_lt_of_cell? _ _ Zm;first|rwa [Qh] at this|exact this) Zu.out))|(dsimp only;exact Nat.ne_of_lt (Nat.lt_of_lt_of_le (by have:=World.block_lt_of_cell? _ _ Zm;first|rwa [Qh] at this|exact this) Zu.out))) _).trans (((Ql (p:=⟨QL,_,none⟩) (by first|exact Nat.ne_of_lt (Nat.lt_of_lt_of_le (by have:=World.block_lt_of_cell? _ _ Zm;first|rwa [Qh] at this|exact this) Zu.out)|(rw [Qh];exact Nat.ne_of_lt (Nat.lt_of_lt_of_le (by have:=World.block_lt_of_cell? _ _ Zm;first|rwa [Qh] at this|exact this) Zu.out))|(show (Addr.add _ _).block≠_;rw [Qh];exact Nat.ne_of_lt (Nat.lt_of_lt_of_le (by have:=World.block_lt_of_cell? _ _ Zm;first|rwa [Qh] at this|exact this) Zu.out))|(dsimp only;exact Nat.ne_of_lt (Nat.lt_of_lt_of_le (by have:=World.block_lt_of_cell? _ _ Zm;first|rwa [Qh] at this|exact this) Zu.out))) _).trans (((Ql (p:=⟨QL,_,none⟩) (by first|exact Nat.ne_of_lt (Nat.lt_of_lt_of_le (by have:=World.block_lt_of_cell? _ _ Zm;first|rwa [Qh] at this|exact this) Zu.out)|(rw [Qh];exact Nat.ne_of_lt (Nat.lt_of_lt_of_le (by have:=World.block_lt_of_cell? _ _ Zm;first|rwa [Qh] at this|exact this) Zu.out))|(show (Addr.add _ _).block≠_;rw [Qh];exact Nat.ne_of_lt (Nat.lt_of_lt_of_le (by have:=World.block_lt_of_cell? _ _ Zm;first|rwa [Qh] at this|exact this) Zu.out))|(dsimp only;exact Nat.ne_of_lt (Nat.lt_of_lt_of_le (by have:=World.block_lt_of_cell? _ _ Zm;first|rwa [Qh] at this|exact this) Zu.out))) _).trans (hHeld.2.2.2.2.2.2.2.2.2.2.2.2))))))))))))⟩ (fun hHeld => ?_);clear hK K;refine OC (Gi HT_.out (by kernel_rfl)) ?_
               try go_wp2
               have n0_:Q0 (Kd.R (Kd.int .i64) 3 ((((((w50.setCell ⟨QL,0,none⟩ (.int .i64 Ky)).setCell ⟨QL,1,none⟩ (.int .i64 t173)).setCell ⟨QL,2,none⟩ (.int .i64 Oc)).setCell ⟨QL,3,none⟩ (.int .i64 t175)).setCell ⟨QL,4,none⟩ (.int .i64 ON)).setCell ⟨QL,5,none⟩ (.int .i64 UN)) w.heap.size (fun k_=>(w.heap.size≤k_)) u13 YT):=⟨by (with_reducible repeat (first|apply Kd.R_alloc|apply Kd.R_drewN|apply Kd.R_drew));exact Kd.R_mono (Kd.R_far (p:=⟨QL,5,none⟩) (Kd.R_far (p:=⟨QL,4,none⟩) (Kd.R_far (p:=⟨QL,3,none⟩) (Kd.R_far (p:=⟨QL,2,none⟩) (Kd.R_far (p:=⟨QL,1,none⟩) (Kd.R_far (p:=⟨QL,0,none⟩) (Kd.R_types HO_13.out Zy.out (by decide)) (fun _ hk=>hk.2) (.int .i64 Ky)) (fun _ hk=>hk.2) (.int .i64 t173)) (fun _ hk=>hk.2) (.int .i64 Oc)) (fun _ hk=>hk.2) (.int .i64 t175)) (fun _ hk=>hk.2) (.int .i64 ON)) (fun _ hk=>hk.2) (.int .i64 UN)) (fun _ hk=>hk.1)⟩;have n1_:Q0 (((((((w50.setCell ⟨QL,0,none⟩ (.int .i64 Ky)).setCell ⟨QL,1,none⟩ (.int .i64 t173)).setCell ⟨QL,2,none⟩ (.int .i64 Oc)).setCell ⟨QL,3,none⟩ (.int .i64 t175)).setCell ⟨QL,4,none⟩ (.int .i64 ON)).setCell ⟨QL,5,none⟩ (.int .i64 UN)).heap[ZQ]? = some (.cells #[.slice Y5 Qb.length QK,.slice Y2 Qk.length QM,.slice Y7 Qd.length QN,.int .i64 Yb,.int .i64 Ya] 39 (0,0))):=⟨by (with_reducible repeat (first|refine Q5 ?_ _|refine Q6 ?_|refine Q3 ?_ _));refine Qm ?_ J6.out _;(with_reducible repeat (first|refine Q5 ?_ _|refine Q6 ?_|refine Q3 ?_ _));refine Qm ?_ J6.out _;(with_reducible repeat (first|refine Q5 ?_ _|refine Q6 ?_|refine Q3 ?_ _));refine Qm ?_ J6.out _;(with_reducible repeat (first|refine Q5 ?_ _|refine Q6 ?_|refine Q3 ?_ _));refine Qm ?_ J6.out _;(with_reducible repeat (first|refine Q5 ?_ _|refine Q6 ?_|refine Q3 ?_ _));refine Qm ?_ J6.out _;(with_reducible repeat (first|refine Q5 ?_ _|refine Q6 ?_|refine Q3 ?_ _));refine Qm ?_ J6.out _;(with_reducible repeat (first|refine Q5 ?_ _|refine Q6 ?_|refine Q3 ?_ _));exact YL.out⟩;have n2_:Q0 (((((((w50.setCell ⟨QL,0,none⟩ (.int .i64 Ky)).setCell ⟨QL,1,none⟩ (.int .i64 t173)).setCell ⟨QL,2,none⟩ (.int .i64 Oc)).setCell ⟨QL,3,none⟩ (.int .i64 t175)).setCell ⟨QL,4,none⟩ (.int .i64 ON)).setCell ⟨QL,5,none⟩ (.int .i64 UN)).heap[YO]? = some (.cells #[.slice Y5 Qb.length QK,.slice Y2 Qk.length QM,.slice Y7 Qd.length QN,.int .i64 Yb,.int .i64 Ya] 111 (0,0))):=⟨by (with_reducible repeat (first|refine Q5 ?_ _|refine Q6 ?_|refine Q3 ?_ _));refine Qm ?_ Yk.out _;(with_reducible repeat (first|refine Q5 ?_ _|refine Q6 ?_|refine Q3 ?_ _));refine Qm ?_ Yk.out _;(with_reducible repeat (first|refine Q5 ?_ _|refine Q6 ?_|refine Q3 ?_ _));refine Qm ?_ Yk.out _;(with_reducible repeat (first|refine Q5 ?_ _|refine Q6 ?_|refine Q3 ?_ _));refine Qm ?_ Yk.out _;(with_reducible repeat (first|refine Q5 ?_ _|refine Q6 ?_|refine Q3 ?_ _));refine Qm ?_ Yk.out _;(with_reducible repeat (first|refine Q5 ?_ _|refine Q6 ?_|refine Q3 ?_ _));refine Qm ?_ Yk.out _;(with_reducible repeat (first|refine Q5 ?_ _|refine Q6 ?_|refine Q3 ?_ _));exact Y0.out⟩;have n3_:Q0 (((((((w50.setCell ⟨QL,0,none⟩ (.int .i64 Ky)).setCell ⟨QL,1,none⟩ (.int .i64 t173)).setCell ⟨QL,2,none⟩ (.int .i64 Oc)).setCell ⟨QL,3,none⟩ (.int .i64 t175)).setCell ⟨QL,4,none⟩ (.int .i64 ON)).setCell ⟨QL,5,none⟩ (.int .i64 UN)).heap[Yn]? = some (.cells #[.int .i64 Zp,.int .i64 Zh,.int .i64 Ze,.int .i64 Za,.int .i64 Z5,.int .i64 Z0] 115 (0,0))):=⟨by (with_reducible repeat (first|refine Q5 ?_ _|refine Q6 ?_|refine Q3 ?_ _));refine Qm ?_ Y6.out _;(with_reducible repeat (first|refine Q5 ?_ _|refine Q6 ?_|refine Q3 ?_ _));refine Qm ?_ Y6.out _;(with_reducible repeat (first|refine Q5 ?_ _|refine Q6 ?_|refine Q3 ?_ _));refine Qm ?_ Y6.out _;(with_reducible repeat (first|refine Q5 ?_ _|refine Q6 ?_|refine Q3 ?_ _));refine Qm ?_ Y6.out _;(with_reducible repeat (first|refine Q5 ?_ _|refine Q6 ?_|refine Q3 ?_ _));refine Qm ?_ Y6.out _;(with_reducible repeat (first|refine Q5 ?_ _|refine Q6 ?_|refine Q3 ?_ _));refine Qm ?_ Y6.out _;(with_reducible repeat (first|refine Q5 ?_ _|refine Q6 ?_|refine Q3 ?_ _));exact Yt.out⟩;have n4_:Q0 (((((((w50.setCell ⟨QL,0,none⟩ (.int .i64 Ky)).setCell ⟨QL,1,none⟩ (.int .i64 t173)).setCell ⟨QL,2,none⟩ (.int .i64 Oc)).setCell ⟨QL,3,none⟩ (.int .i64 t175)).setCell ⟨QL,4,none⟩ (.int .i64 ON)).setCell ⟨QL,5,none⟩ (.int .i64 UN)).heap[QL]? = some (.cells #[.int .i64 Ky,.int .i64 t173,.int .i64 Oc,.int .i64 t175,.int .i64 ON,.int .i64 UN] 115 (0,0))):=⟨by (with_reducible repeat (first|refine Q5 ?_ _|refine Q6 ?_|refine Q3 ?_ _));refine QC (cs:=#[.int .i64 Ky,.int .i64 t173,.int .i64 Oc,.int .i64 t175,.int .i64 ON,.int .i64 0]) ?_ 5 _ rfl;(with_reducible repeat (first|refine Q5 ?_ _|refine Q6 ?_|refine Q3 ?_ _));refine QC (cs:=#[.int .i64 Ky,.int .i64 t173,.int .i64 Oc,.int .i64 t175,.int .i64 0,.int .i64 0]) ?_ 4 _ rfl;(with_reducible repeat (first|refine Q5 ?_ _|refine Q6 ?_|refine Q3 ?_ _));refine QC (cs:=#[.int .i64 Ky,.int .i64 t173,.int .i64 Oc,.int .i64 0,.int .i64 0,.int .i64 0]) ?_ 3 _ rfl;(with_reducible repeat (first|refine Q5 ?_ _|refine Q6 ?_|refine Q3 ?_ _));refine QC (cs:=#[.int .i64 Ky,.int .i64 t173,.int .i64 0,.int .i64 0,.int .i64 0,.int .i64 0]) ?_ 2 _ rfl;(with_reducible repeat (first|refine Q5 ?_ _|refine Q6 ?_|refine Q3 ?_ _));refine QC (cs:=#[.int .i64 Ky,.int .i64 0,.int .i64 0,.int .i64 0,.int .i64 0,.int .i64 0]) ?_ 1 _ rfl;(with_reducible repeat (first|refine Q5 ?_ _|refine Q6 ?_|refine Q3 ?_ _));refine QC (cs:=#[.int .i64 0,.int .i64 0,.int .i64 0,.int .i64 0,.int .i64 0,.int .i64 0]) ?_ 0 _ rfl;(with_reducible repeat (first|refine Q5 ?_ _|refine Q6 ?_|refine Q3 ?_ _));exact Zy.out⟩;have n5_:Q0 (Below w.heap.size w ((((((w50.setCell ⟨QL,0,none⟩ (.int .i64 Ky)).setCell ⟨QL,1,none⟩ (.int .i64 t173)).setCell ⟨QL,2,none⟩ (.int .i64 Oc)).setCell ⟨QL,3,none⟩ (.int .i64 t175)).setCell ⟨QL,4,none⟩ (.int .i64 ON)).setCell ⟨QL,5,none⟩ (.int .i64 UN))):=⟨by repeat (first|(with_reducible first|exact HB.out|apply Q2|apply Q1|apply Q4|refine Q7 ?_ ZN.out|refine Q7 ?_ ZW.out|refine Q7 ?_ O9.out|refine Q7 ?_ W9.out)|exact HB.out)⟩
               (try clear HO_13)
               (try clear YL)
               (try clear Y0)
               (try clear Yt)
               (try clear Zy)
               (try clear HB)
               generalize ((((((w50.setCell ⟨QL,0,none⟩ (.int .i64 Ky)).setCell ⟨QL,1,none⟩ (.int .i64 t173)).setCell ⟨QL,2,none⟩ (.int .i64 Oc)).setCell ⟨QL,3,none⟩ (.int .i64 t175)).setCell ⟨QL,4,none⟩ (.int .i64 ON)).setCell ⟨QL,5,none⟩ (.int .i64 UN))=w57 at n0_ n1_ n2_ n3_ n4_ n5_ ⊢
               have HO_13:=n0_;have YL:=n1_;have Y0:=n2_;have Yt:=n3_;have Zy:=n4_;have HB:=n5_;clear n0_ n1_ n2_ n3_ n4_ n5_;have n0_:=Q0.mk (Kd.R_drew HO_13.out);have n1_:=Q0.mk (Q6 YL.out);have n2_:=Q0.mk (Q6 Y0.out);have n3_:=Q0.mk (Q6 Yt.out);have n4_:=Q0.mk (Q6 Zy.out);have n5_:=Q0.mk (Q4 HB.out);clear HO_13 YL Y0 Yt Zy HB;have HO_13:=n0_;have YL:=n1_;have Y0:=n2_;have Yt:=n3_;have Zy:=n4_;have HB:=n5_;clear n0_ n1_ n2_ n3_ n4_ n5_;refine Kr (n:=7) (S:=fun w'=>w'.cell? ⟨QL,0,none⟩=some (.int .i64 Ky)∧w'.cell? ⟨QL,1,none⟩=some (.int .i64 t173)∧w'.cell? ⟨QL,2,none⟩=some (.int .i64 Oc)∧w'.cell? ⟨QL,3,none⟩=some (.int .i64 t175)∧w'.cell? ⟨QL,4,none⟩=some (.int .i64 ON)∧w'.cell? ⟨QL,5,none⟩=some (.int .i64 UN)) (ds:=[]) #[false,false,false,false,false,false,false] (by kernel_rfl) rfl rfl ⟨(Q8 Zy.out 0).trans rfl,(Q8 Zy.out 1).trans rfl,(Q8 Zy.out 2).trans rfl,(Q8 Zy.out 3).trans rfl,(Q8 Zy.out 4).trans rfl,(Q8 Zy.out 5).trans rfl⟩ (fun hHeld => ?_)
               generalize w57.drew=w58 at HO_13 YL Y0 Yt Zy HB hHeld ⊢
               refine Qx (i:=0) (N:=some 78) (v:=?_) (a':=?_) #[true,false,false,false,false,false,false] rfl rfl (by kernel_rfl) (fun _ _ _ h=>h) (Or.inl ⟨by rfl,?_⟩) ?_ ?_
               rotate_left
               ·
                intro w'
                go_simp
                with_reducible rfl
               rotate_left
               ·
                simp only [Act.put,List.setIfInBounds_toArray,List.set_cons_zero,List.set_cons_succ,Qp,Qq]
                rfl
               refine Qx (i:=1) (N:=some 79) (v:=?_) (a':=?_) #[true,true,false,false,false,false,false] rfl rfl (by kernel_rfl) (fun _ _ _ h=>h) (Or.inl ⟨by rfl,?_⟩) ?_ ?_
               rotate_left
               ·
                intro w'
                go_simp
                with_reducible rfl
               rotate_left
               ·
                simp only [Act.put,List.setIfInBounds_toArray,List.set_cons_zero,List.set_cons_succ,Qp,Qq]
                rfl
               refine JG (i:=4) (N:=some 82) (v:=?_) (a':=?_) #[true,true,false,false,true,false,false] rfl rfl (by kernel_rfl) (fun _ _ _ h=>h) (Or.inl ⟨by rfl,?_⟩) hHeld ?_ ?_
               rotate_left
               ·
                rintro w' ⟨s0,s1,s2,s3,s4,s5⟩
                go_simp
                with_reducible rfl
               rotate_left
               ·
                simp only [Act.put,List.setIfInBounds_toArray,List.set_cons_zero,List.set_cons_succ,Qp,Qq]
                rfl
               refine one_ (i:=2) (N:=some 80) #[true,true,true,false,true,false,false] rfl rfl (by kernel_rfl) (by decide) (fun K hK => ?_);refine qhA (w1:=?_) (v:=?_) (by rfl) rfl ?_ ?_
               rotate_left 2
               ·
                go_simp
                constructor
                ·
                 rfl
                rfl
               refine hK.out _ _ ⟨(Q8 (Q3 Zy.out _) 0).trans rfl,(Q8 (Q3 Zy.out _) 1).trans rfl,(Q8 (Q3 Zy.out _) 2).trans rfl,(Q8 (Q3 Zy.out _) 3).trans rfl,(Q8 (Q3 Zy.out _) 4).trans rfl,(Q8 (Q3 Zy.out _) 5).trans rfl⟩ (fun hHeld => ?_);clear hK K;refine Jr (a':=?_) ?_ ?_
               rotate_left
               ·
                show Act.put _ (some 80) _=_
                simp only [Act.put,List.setIfInBounds_toArray,List.set_cons_zero,List.set_cons_succ,Qp,Qq]
                rfl
               refine one_ (i:=3) (N:=some 81) #[true,true,true,true,true,false,false] rfl rfl (by kernel_rfl) (by decide) (fun K hK => ?_);refine Kd.R_append_step (Kd.int .i64) (w0:=w) w.heap.size (by rfl) (.tmp 78) (.tmp 80) 37 3 (.int .i64 0) 8 rfl Try.underlying37 Xa rfl (by decide) (by omega) u13 YT t171 [.int .i64 t171] (fun k_=>(w.heap.size≤k_)) (fun _=>False) rfl rfl ?aP (fun _ hk=>hk.elim) ?aF ?aO ?aB ?aS ?aL ?_
               (case aP=>exact rfl)
               (case aB=>exact (by repeat (first|(with_reducible first|exact HB.out|apply Q2|apply Q1|apply Q4|refine Q7 ?_ ZN.out|refine Q7 ?_ ZW.out|refine Q7 ?_ O9.out|refine Q7 ?_ W9.out)|exact HB.out)))
               (case aF=>exact (fun k_ hk=>(Nat.le_trans (Qe (by repeat (first|(with_reducible first|exact HB.out|apply Q2|apply Q1|apply Q4|refine Q7 ?_ ZN.out|refine Q7 ?_ ZW.out|refine Q7 ?_ O9.out|refine Q7 ?_ W9.out)|exact HB.out))) hk)))
               (case aO=>exact (by (with_reducible repeat (first|apply Kd.R_alloc|apply Kd.R_drewN|apply Kd.R_drew));exact HO_13.out))
               (case aS=>exact (Qe (by repeat (first|(with_reducible first|exact HB.out|apply Q2|apply Q1|apply Q4|refine Q7 ?_ ZN.out|refine Q7 ?_ ZW.out|refine Q7 ?_ O9.out|refine Q7 ?_ W9.out)|exact HB.out))))
               (case aL=>have:=qrg.out;omega)
               intro qE2 w59 ho hb hg hat;rw [← qrh.out] at ho;have n0_:=Q0.mk (JP (g:=ZQ) (by (with_reducible repeat (first|refine Q5 ?_ _|refine Q6 ?_|refine Q3 ?_ _));exact YL.out) hg (Kd.R_ne HO_13.out YL.out (by decide)));have n1_:=Q0.mk (JP (g:=YO) (by (with_reducible repeat (first|refine Q5 ?_ _|refine Q6 ?_|refine Q3 ?_ _));exact Y0.out) hg (Kd.R_ne HO_13.out Y0.out (by decide)));have n2_:=Q0.mk (JP (g:=Yn) (by (with_reducible repeat (first|refine Q5 ?_ _|refine Q6 ?_|refine Q3 ?_ _));exact Yt.out) hg (Kd.R_ne HO_13.out Yt.out (by decide)));have n3_:=Q0.mk (JP (g:=QL) (by (with_reducible repeat (first|refine Q5 ?_ _|refine Q6 ?_|refine Q3 ?_ _));exact Zy.out) hg (Kd.R_ne HO_13.out Zy.out (by decide)));have n4_:=Q0.mk (hb);have n5_:=Q0.mk (ho);clear YL Y0 Yt Zy HB HO_13;have YL:=n0_;have Y0:=n1_;have Yt:=n2_;have Zy:=n3_;have HB:=n4_;have qq2:=n5_;clear n0_ n1_ n2_ n3_ n4_ n5_ ho hb hg hat;refine hK.out _ _ ⟨(Q8 Zy.out 0).trans rfl,(Q8 Zy.out 1).trans rfl,(Q8 Zy.out 2).trans rfl,(Q8 Zy.out 3).trans rfl,(Q8 Zy.out 4).trans rfl,(Q8 Zy.out 5).trans rfl⟩ (fun hHeld => ?_);clear hK K;refine Jr (a':=?_) ?_ ?_
               rotate_left
               ·
                show Act.put _ (some 81) _=_
                simp only [Act.put,List.setIfInBounds_toArray,List.set_cons_zero,List.set_cons_succ,Qp,Qq]
                rfl
               refine Qx (i:=5) (N:=some 13) (v:=?_) (a':=?_) #[true,true,true,true,true,true,false] rfl rfl (by kernel_rfl) (fun _ _ _ h=>h) (Or.inl ⟨by rfl,?_⟩) ?_ ?_
               rotate_left
               ·
                intro w'
                go_simp
                with_reducible rfl
               rotate_left
               ·
                simp only [Act.put,List.setIfInBounds_toArray,List.set_cons_zero,List.set_cons_succ,Qp,Qq]
                rfl
               refine one_ (i:=6) (N:=none) #[true,true,true,true,true,true,true] rfl rfl (by kernel_rfl) (by decide) (fun K hK => ?_);have qEL:w59.cell? ⟨Yn,0,none⟩=some (.int .i64 Zp):=(Q8 Yt.out 0).trans rfl;have qCk:=Qa Yt.out 0;have qzr:=ZI.out;have qzs:=ZJ.out;have qzt:=Ye.out;have qyF:=KR.out;have qyG:=KS.out;have qyH:=Y6.out;have qEM:w59.cell? ⟨Yn,1,none⟩=some (.int .i64 Zh):=(Q8 Yt.out 1).trans rfl;have qCl:=Qa Yt.out 1;have qzu:=ZI.out;have qzv:=ZJ.out;have qzw:=Ye.out;have qyI:=KR.out;have qyJ:=KS.out;have qyK:=Y6.out;have qEN:w59.cell? ⟨Yn,2,none⟩=some (.int .i64 Ze):=(Q8 Yt.out 2).trans rfl;have qCm:=Qa Yt.out 2;have qzx:=ZI.out;have qzy:=ZJ.out;have qzz:=Ye.out;have qyL:=KR.out;have qyM:=KS.out;have qyN:=Y6.out;have qEO:w59.cell? ⟨Yn,3,none⟩=some (.int .i64 Za):=(Q8 Yt.out 3).trans rfl;have qCn:=Qa Yt.out 3;have qzA:=ZI.out;have qzB:=ZJ.out;have qzC:=Ye.out;have qyO:=KR.out;have qyP:=KS.out;have qyQ:=Y6.out;have qEP:w59.cell? ⟨Yn,4,none⟩=some (.int .i64 Z5):=(Q8 Yt.out 4).trans rfl;have qCo:=Qa Yt.out 4;have qzD:=ZI.out;have qzE:=ZJ.out;have qzF:=Ye.out;have qyR:=KR.out;have qyS:=KS.out;have qyT:=Y6.out;have qEQ:w59.cell? ⟨Yn,5,none⟩=some (.int .i64 Z0):=(Q8 Yt.out 5).trans rfl;have qCp:=Qa Yt.out 5;have qzG:=ZI.out;have qzH:=ZJ.out;have qzI:=Ye.out;have qyU:=KR.out;have qyV:=KS.out;have qyW:=Y6.out;refine qlI (w1:=?_) (by rfl) rfl ?_ ?_
               rotate_left
               ·
                go_simp
                rfl
               refine hK.out _ _ ⟨((Ql (p:=⟨Yn,_,none⟩) Ye.out _).trans (((Ql (p:=⟨Yn,_,none⟩) Ye.out _).trans (((Ql (p:=⟨Yn,_,none⟩) Ye.out _).trans (((Ql (p:=⟨Yn,_,none⟩) Ye.out _).trans (((Ql (p:=⟨Yn,_,none⟩) Ye.out _).trans (((Ql (p:=⟨Yn,_,none⟩) Ye.out _).trans (hHeld.1)))))))))))),((Ql (p:=⟨Yn,_,none⟩) Ye.out _).trans (((Ql (p:=⟨Yn,_,none⟩) Ye.out _).trans (((Ql (p:=⟨Yn,_,none⟩) Ye.out _).trans (((Ql (p:=⟨Yn,_,none⟩) Ye.out _).trans (((Ql (p:=⟨Yn,_,none⟩) Ye.out _).trans (((Ql (p:=⟨Yn,_,none⟩) Ye.out _).trans (hHeld.2.1)))))))))))),((Ql (p:=⟨Yn,_,none⟩) Ye.out _).trans (((Ql (p:=⟨Yn,_,none⟩) Ye.out _).trans (((Ql (p:=⟨Yn,_,none⟩) Ye.out _).trans (((Ql (p:=⟨Yn,_,none⟩) Ye.out _).trans (((Ql (p:=⟨Yn,_,none⟩) Ye.out _).trans (((Ql (p:=⟨Yn,_,none⟩) Ye.out _).trans (hHeld.2.2.1)))))))))))),((Ql (p:=⟨Yn,_,none⟩) Ye.out _).trans (((Ql (p:=⟨Yn,_,none⟩) Ye.out _).trans (((Ql (p:=⟨Yn,_,none⟩) Ye.out _).trans (((Ql (p:=⟨Yn,_,none⟩) Ye.out _).trans (((Ql (p:=⟨Yn,_,none⟩) Ye.out _).trans (((Ql (p:=⟨Yn,_,none⟩) Ye.out _).trans (hHeld.2.2.2.1)))))))))))),((Ql (p:=⟨Yn,_,none⟩) Ye.out _).trans (((Ql (p:=⟨Yn,_,none⟩) Ye.out _).trans (((Ql (p:=⟨Yn,_,none⟩) Ye.out _).trans (((Ql (p:=⟨Yn,_,none⟩) Ye.out _).trans (((Ql (p:=⟨Yn,_,none⟩) Ye.out _).trans (((Ql (p:=⟨Yn,_,none⟩) Ye.out _).trans (hHeld.2.2.2.2.1)))))))))))),((Ql (p:=⟨Yn,_,none⟩) Ye.out _).trans (((Ql (p:=⟨Yn,_,none⟩) Ye.out _).trans (((Ql (p:=⟨Yn,_,none⟩) Ye.out _).trans (((Ql (p:=⟨Yn,_,none⟩) Ye.out _).trans (((Ql (p:=⟨Yn,_,none⟩) Ye.out _).trans (((Ql (p:=⟨Yn,_,none⟩) Ye.out _).trans (hHeld.2.2.2.2.2))))))))))))⟩ (fun hHeld => ?_);clear hK K;refine OC (by kernel_rfl) ?_
               try go_wp2
               go_roundg k4
               case measure=>have:=HJ3.out;have:=HK2.out;have:=Ut.out;have:=HK4.out;omega
               case rel=>exact ⟨(qtS),(wrap64 (J2+1)),(Ky),(t173),(Oc),(t175),(ON),(UN),(by first|rfl|(simp;done)|(simp [*];done)),H',⟨by have:=HJ3.out;have:=HK2.out;have:=Ut.out;have:=HK4.out;omega⟩,⟨by (with_reducible repeat (first|apply Kd.R_alloc|apply Kd.R_drewN|apply Kd.R_drew));exact Kd.R_mono (Kd.R_far (p:=⟨Yn,5,none⟩) (Kd.R_far (p:=⟨Yn,4,none⟩) (Kd.R_far (p:=⟨Yn,3,none⟩) (Kd.R_far (p:=⟨Yn,2,none⟩) (Kd.R_far (p:=⟨Yn,1,none⟩) (Kd.R_far (p:=⟨Yn,0,none⟩) (Kd.R_types qq2.out Yt.out (by decide)) (fun _ hk=>hk.2) (.int .i64 Ky)) (fun _ hk=>hk.2) (.int .i64 t173)) (fun _ hk=>hk.2) (.int .i64 Oc)) (fun _ hk=>hk.2) (.int .i64 t175)) (fun _ hk=>hk.2) (.int .i64 ON)) (fun _ hk=>hk.2) (.int .i64 UN)) (fun _ hk=>hk.1)⟩,⟨by (with_reducible repeat (first|refine Q5 ?_ _|refine Q6 ?_|refine Q3 ?_ _));refine Qm ?_ ZI.out _;(with_reducible repeat (first|refine Q5 ?_ _|refine Q6 ?_|refine Q3 ?_ _));refine Qm ?_ ZI.out _;(with_reducible repeat (first|refine Q5 ?_ _|refine Q6 ?_|refine Q3 ?_ _));refine Qm ?_ ZI.out _;(with_reducible repeat (first|refine Q5 ?_ _|refine Q6 ?_|refine Q3 ?_ _));refine Qm ?_ ZI.out _;(with_reducible repeat (first|refine Q5 ?_ _|refine Q6 ?_|refine Q3 ?_ _));refine Qm ?_ ZI.out _;(with_reducible repeat (first|refine Q5 ?_ _|refine Q6 ?_|refine Q3 ?_ _));refine Qm ?_ ZI.out _;(with_reducible repeat (first|refine Q5 ?_ _|refine Q6 ?_|refine Q3 ?_ _));exact YL.out⟩,⟨by (with_reducible repeat (first|refine Q5 ?_ _|refine Q6 ?_|refine Q3 ?_ _));refine Qm ?_ ZJ.out _;(with_reducible repeat (first|refine Q5 ?_ _|refine Q6 ?_|refine Q3 ?_ _));refine Qm ?_ ZJ.out _;(with_reducible repeat (first|refine Q5 ?_ _|refine Q6 ?_|refine Q3 ?_ _));refine Qm ?_ ZJ.out _;(with_reducible repeat (first|refine Q5 ?_ _|refine Q6 ?_|refine Q3 ?_ _));refine Qm ?_ ZJ.out _;(with_reducible repeat (first|refine Q5 ?_ _|refine Q6 ?_|refine Q3 ?_ _));refine Qm ?_ ZJ.out _;(with_reducible repeat (first|refine Q5 ?_ _|refine Q6 ?_|refine Q3 ?_ _));refine Qm ?_ ZJ.out _;(with_reducible repeat (first|refine Q5 ?_ _|refine Q6 ?_|refine Q3 ?_ _));exact Y0.out⟩,⟨by (with_reducible repeat (first|refine Q5 ?_ _|refine Q6 ?_|refine Q3 ?_ _));refine QC (cs:=#[.int .i64 Ky,.int .i64 t173,.int .i64 Oc,.int .i64 t175,.int .i64 ON,.int .i64 Z0]) ?_ 5 _ rfl;(with_reducible repeat (first|refine Q5 ?_ _|refine Q6 ?_|refine Q3 ?_ _));refine QC (cs:=#[.int .i64 Ky,.int .i64 t173,.int .i64 Oc,.int .i64 t175,.int .i64 Z5,.int .i64 Z0]) ?_ 4 _ rfl;(with_reducible repeat (first|refine Q5 ?_ _|refine Q6 ?_|refine Q3 ?_ _));refine QC (cs:=#[.int .i64 Ky,.int .i64 t173,.int .i64 Oc,.int .i64 Za,.int .i64 Z5,.int .i64 Z0]) ?_ 3 _ rfl;(with_reducible repeat (first|refine Q5 ?_ _|refine Q6 ?_|refine Q3 ?_ _));refine QC (cs:=#[.int .i64 Ky,.int .i64 t173,.int .i64 Ze,.int .i64 Za,.int .i64 Z5,.int .i64 Z0]) ?_ 2 _ rfl;(with_reducible repeat (first|refine Q5 ?_ _|refine Q6 ?_|refine Q3 ?_ _));refine QC (cs:=#[.int .i64 Ky,.int .i64 Zh,.int .i64 Ze,.int .i64 Za,.int .i64 Z5,.int .i64 Z0]) ?_ 1 _ rfl;(with_reducible repeat (first|refine Q5 ?_ _|refine Q6 ?_|refine Q3 ?_ _));refine QC (cs:=#[.int .i64 Zp,.int .i64 Zh,.int .i64 Ze,.int .i64 Za,.int .i64 Z5,.int .i64 Z0]) ?_ 0 _ rfl;(with_reducible repeat (first|refine Q5 ?_ _|refine Q6 ?_|refine Q3 ?_ _));exact Yt.out⟩,⟨by repeat (first|(with_reducible first|exact HB.out|apply Q2|apply Q1|apply Q4|refine Q7 ?_ ZN.out|refine Q7 ?_ ZW.out|refine Q7 ?_ O9.out|refine Q7 ?_ W9.out)|exact HB.out)⟩⟩
              rw [if_neg c46] at H
              exact absurd H (by simp)
             rw [if_neg c44] at H
             exact absurd H (by simp)
            rw [if_neg c43] at H
            exact absurd H (by simp)
           rw [if_neg c42] at H
           exact absurd H (by simp)
          rw [if_neg c41] at H;have c41b0:decide (J2<(l1.length:Int))=false:=decide_eq_false c41;clear c41
          by_cases c66:0≤(YT.length:Int)
          ·
           rw [if_pos c66] at H;have c66b0:=eq_true c66;have c66b1:decide (0≤(YT.length:Int))=true:=decide_eq_true c66;clear c66
           by_cases c67:(YT.length:Int)≤(YT.length:Int)
           ·
            rw [if_pos c67] at H;have c67b0:=eq_true c67;have c67b1:decide ((YT.length:Int)≤(YT.length:Int))=true:=decide_eq_true c67;clear c67;obtain ⟨qqq,qfe⟩:∃ y_:List Int,y_=(YT.take ((YT.length:Int):Int).toNat):=⟨_,rfl⟩
            replace H:(some (qqq,0))=some (r1,r2):=by first|(rw [qfe];with_reducible exact H)|(have H2_:=(Option.bind_some _ _).symm.trans H;rw [qfe];with_reducible exact H2_)|(have H2_:=(Option.bind_some _ _).symm.trans H;with_reducible exact H2_)|with_reducible exact H|(rw [qfe];exact H)|exact H
            have qoz:=Q0.mk qfe;clear qfe;simp only [Option.some.injEq,Prod.mk.injEq] at H;obtain ⟨rfl,rfl⟩:=H;obtain ⟨qzW,qAc,qAL⟩:=Kd.R_slice HO_13.out;subst qAL;have q69:((YT.length:Int):Int)≤((YT.length:Int):Int):=of_decide_eq_true (by first|(with_reducible assumption)|assumption);obtain ⟨qEX,qo3,_,qtI,_⟩:=info_parts Xa;have qAP:=UK (P:=Try.prog) 37 3 Try.underlying37 qo3 qzW YT.length qAc (Kd.R_reads' HO_13.out).2.1;have qp2:=Kd.R_take (m:=((YT.length:Int):Int).toNat) HO_13.out (by omega);have qtM:qqq.length=((YT.length:Int):Int).toNat:=(by rw [qoz.out,List.length_take];omega);rw [← qoz.out] at qp2
            have qtN:YT.length=qqq.length:=by rw [qtM];omega
            have qz1:=Q0.mk qtN;clear qtM qtN qo3 qtI HO_13;have qq3:=Q0.mk qp2;clear qp2;replace q69:=eq_true q69
            go_wp2
            go_ret2
            exact ⟨_,by first|rfl|(simp [Qv,Qw]<;>rfl)|(simp [*,Qv,Qw]<;>rfl),qkz (by (with_reducible repeat (first|apply Kd.R_alloc|apply Kd.R_drewN|apply Kd.R_drew));exact qq3.out) _ qz1.out,by repeat (first|(with_reducible first|exact HB.out|apply Q2|apply Q1|apply Q4|refine Q7 ?_ ZN.out|refine Q7 ?_ ZW.out|refine Q7 ?_ O9.out)|exact HB.out)⟩
           rw [if_neg c67] at H
           exact absurd H (by simp)
          rw [if_neg c66] at H
          exact absurd H (by simp)
       replace c32:=Bool.eq_false_iff.mpr c32;subst c32
       have H1:(some (([]:List Int),92))=some (r1,r2):=by rw [if_neg (show ¬ (false=true) by decide)] at H;exact H
       clear H;have H:=H1;clear H1;simp only [Option.some.injEq,Prod.mk.injEq] at H;obtain ⟨rfl,rfl⟩:=H
       go_wp2
       go_ret2
       exact ⟨_,by first|rfl|(simp [Qv,Qw]<;>rfl)|(simp [*,Qv,Qw]<;>rfl),(by first|exact Kd.V_nil _ _ _ _ _|(show Kd.V _ _ _ _ _ (.slice none 0 0) [];exact Kd.V_nil _ _ _ _ _)),by repeat (first|(with_reducible first|exact HB.out|apply Q2|apply Q1|apply Q4|refine Q7 ?_ ZN.out|refine Q7 ?_ ZW.out)|exact HB.out)⟩
end
section
attribute [local go_sem] YF YH YY YZ Yq Yr YG YI
def YX.l0:Nat→List Int→List Int→Int→Option (Bool)
 | 0,_,_,_=>none
 | k+1,x0,x1,x5=>if x5<(x0.length:Int) then (if 0≤x5 then (if x5<(x1.length:Int) then (if (rd x0 x5)=(rd x1 x5) then (YX.l0 k x0 x1 (wrap64 (x5+1))) else (some false)) else (none)) else (none)) else (some true)
def YX.f (k:Nat) (l0:List Int) (l1:List Int):Option (Bool):=if (l0.length:Int)=(l1.length:Int) then (YX.l0 k l0 l1 0) else (some false)
set_option maxHeartbeats 8000000 in
set_option maxRecDepth 100000 in
theorem YX.calls (k:Nat) (A0:Option Addr) (c0:Nat) (l0:List Int) (A1:Option Addr) (c1:Nat) (l1:List Int) (r:Bool) (w:World) (hr0:Kd.C (Kd.int .i64) w A0 l0.length l0) (hc0:l0.length≤c0) (hr1:Kd.C (Kd.int .i64) w A1 l1.length l1) (hc1:l1.length≤c1) (h:YX.f k l0 l1=some r) :
  Calls Try.prog 27 #[.slice A0 l0.length c0,.slice A1 l1.length c1] w fun e w'=>e = .returned (.bool r)∧Yu w w':=by
 have HR0:=Q0.mk hr0
 have HC0:=Q0.mk hc0
 clear hr0 hc0
 have HR1:=Q0.mk hr1
 have HC1:=Q0.mk hc1
 clear hr1 hc1
 have H:(if (l0.length:Int)=(l1.length:Int) then (YX.l0 k l0 l1 0) else (some false))=some r:=h
 clear h
 by_cases c3:(l0.length:Int)=(l1.length:Int)
 ·
  rw [if_pos c3] at H
  have c3b0:((l0.length:Int)==(l1.length:Int))=true:=beq_iff_eq.mpr c3
  have c3b1:((l0.length:Int) != (l1.length:Int))=false:=bne_eq_false_iff_eq.mpr c3
  have c3b2:(l0.length==l1.length)=true:=by first|simpa using c3|(simp at c3 ⊢;omega)
  clear c3
  have H':=Q0.mk H
  clear H
  go_enter Try.func27,Try.ntmps27
  go_wp2
  repeat (go_quiet (fail);try go_wp2)
  go_loopg [5] k (fun kq v5 w' => ∃ (Z6:Int),v5 = .int .i64 Z6∧Q0 (YX.l0 kq l0 l1 Z6=some r)∧Q0 (kq≤k)∧Yu w w')
  case atStart=>exact ⟨(0),(by first|rfl|(simp;done)|(simp [*];done)),H',⟨Nat.le_refl _⟩,by repeat (first|exact Yu.refl _|apply Yu.step)⟩
  case round =>
   clear H'
   try clear c1
   try clear c2
   try clear p2
   try clear c3
   try clear c3b0
   try clear c3b1
   try clear c3b2
   obtain ⟨Z6,rfl,HA,HK1,⟨m1,rfl⟩⟩:=hrel
   cases gk with
   | zero=>exact absurd HA.out (by simp [YX.l0])
   | succ k1 =>
    have H:=HA.out;clear HA;simp only [YX.l0] at H
    by_cases c4:Z6<(l0.length:Int)
    ·
     rw [if_pos c4] at H;have c4b0:decide (Z6<(l0.length:Int))=true:=decide_eq_true c4;clear c4
     by_cases c5:0≤Z6
     ·
      rw [if_pos c5] at H;have c5b0:decide (0≤Z6)=true:=decide_eq_true c5;clear c5
      by_cases c6:Z6<(l1.length:Int)
      ·
       rw [if_pos c6] at H;have c6b0:decide (Z6<(l1.length:Int))=true:=decide_eq_true c6;clear c6
       by_cases c7:(rd l0 Z6)=(rd l1 Z6)
       ·
        rw [if_pos c7] at H;have c7b0:((rd l0 Z6)==(rd l1 Z6))=true:=beq_iff_eq.mpr c7;have c7b1:((rd l0 Z6) != (rd l1 Z6))=false:=bne_eq_false_iff_eq.mpr c7;clear c7;have H':=Q0.mk H;clear H;have qg3:0≤(Z6:Int):=of_decide_eq_true (by first|(with_reducible assumption)|assumption);have qhg:Z6<(l0.length:Int):=of_decide_eq_true (by first|(with_reducible assumption)|assumption);obtain ⟨qrv,e185,qnH⟩:=Kd.at_int HR0.out Z6 qg3 qhg;cases e185;replace qg3:=eq_true qg3;replace qhg:=eq_true qhg;have qg4:0≤(Z6:Int):=of_decide_eq_true (by first|(with_reducible assumption)|assumption);have qhh:Z6<(l1.length:Int):=of_decide_eq_true (by first|(with_reducible assumption)|assumption);obtain ⟨qrw,qpH,qnI⟩:=Kd.at_int HR1.out Z6 qg4 qhh;cases qpH;replace qg4:=eq_true qg4;replace qhh:=eq_true qhh
        go_wp2
        repeat (go_quiet (fail);try go_wp2)
        go_roundg k1
        case measure=>have:=HK1.out;omega
        case rel=>exact ⟨(wrap64 (Z6+1)),(by first|rfl|(simp;done)|(simp [*];done)),H',⟨by have:=HK1.out;omega⟩,by repeat (first|exact Yu.refl _|apply Yu.step)⟩
       rw [if_neg c7] at H;have c7b0:((rd l0 Z6)==(rd l1 Z6))=false:=beq_eq_false_iff_ne.mpr c7;have c7b1:((rd l0 Z6) != (rd l1 Z6))=true:=bne_iff_ne.mpr c7;obtain rfl:=Option.some.inj H;have qg3:0≤(Z6:Int):=of_decide_eq_true (by first|(with_reducible assumption)|assumption);have qhg:Z6<(l0.length:Int):=of_decide_eq_true (by first|(with_reducible assumption)|assumption);obtain ⟨qrv,e185,qnH⟩:=Kd.at_int HR0.out Z6 qg3 qhg;cases e185;replace qg3:=eq_true qg3;replace qhg:=eq_true qhg;have qg4:0≤(Z6:Int):=of_decide_eq_true (by first|(with_reducible assumption)|assumption);have qhh:Z6<(l1.length:Int):=of_decide_eq_true (by first|(with_reducible assumption)|assumption);obtain ⟨qrw,qpH,qnI⟩:=Kd.at_int HR1.out Z6 qg4 qhh;cases qpH;replace qg4:=eq_true qg4;replace qhh:=eq_true qhh
       go_wp2
       repeat (go_quiet (fail);try go_wp2)
       go_ret
       exact ⟨by first|rfl|(simp;done)|(simp [*];done),by repeat (first|exact Yu.refl _|apply Yu.step)⟩
      rw [if_neg c6] at H
      exact absurd H (by simp)
     rw [if_neg c5] at H
     exact absurd H (by simp)
    rw [if_neg c4] at H;have c4b0:decide (Z6<(l0.length:Int))=false:=decide_eq_false c4;clear c4;obtain rfl:=Option.some.inj H
    go_wp2
    repeat (go_quiet (fail);try go_wp2)
    go_ret
    exact ⟨by first|rfl|(simp;done)|(simp [*];done),by repeat (first|exact Yu.refl _|apply Yu.step)⟩
 rw [if_neg c3] at H
 have c3b0:((l0.length:Int)==(l1.length:Int))=false:=beq_eq_false_iff_ne.mpr c3
 have c3b1:((l0.length:Int) != (l1.length:Int))=true:=bne_iff_ne.mpr c3
 have c3b2:(l0.length==l1.length)=false:=by first|simpa using c3|(simp at c3 ⊢;omega)
 obtain rfl:=Option.some.inj H
 go_enter Try.func27,Try.ntmps27
 go_wp2
 repeat (go_quiet (fail);try go_wp2)
 go_ret
 exact ⟨by first|rfl|(simp;done)|(simp [*];done),by repeat (first|exact Yu.refl _|apply Yu.step)⟩
end
section
attribute [local go_sem] YF YH YY YZ Yq Yr YG YI
mutual
def Qu.j0:Nat→Int→Bool→List (S39)→List Int→List (List (List Int))→Option (Int)
 | 0,_,_,_,_,_=>none
 | k+1,x3,x4,Zx,ZU,ZB=>Qu.l0 k x3 x4 0 Zx ZU ZB
def Qu.l0:Nat→Int→Bool→Int→List (S39)→List Int→List (List (List Int))→Option (Int)
 | 0,_,_,_,_,_,_=>none
 | k+1,x3,x4,x5,Zx,ZU,ZB=>if x4=true then (Qu.j2 k x3 x4 x5 (decide (x5<x3)) Zx ZU ZB) else (Qu.j2 k x3 x4 x5 false Zx ZU ZB)
def Qu.j2:Nat→Int→Bool→Int→Bool→List (S39)→List Int→List (List (List Int))→Option (Int)
 | 0,_,_,_,_,_,_,_=>none
 | k+1,x3,x4,x5,x35,Zx,ZU,ZB=>if x35=true then (if 0≤x5 then (if x5<(Zx.length:Int) then ((Qn.f k ((Qc Zx x5).f0) ((Qc Zx x5).f1) ((Qc Zx x5).f2) ((Qc Zx x5).f3) ((Qc Zx x5).f4)).bind fun qjN=>(if qjN=true then (if x5<(ZU.length:Int) then ((Qj.f (rd ZU x5) 0 100).bind fun t193=>(Qu.l0 k x3 t193 (wrap64 (x5+1)) Zx ZU ZB)) else (none)) else (Qu.l0 k x3 false (wrap64 (x5+1)) Zx ZU ZB))) else (none)) else (none)) else (Qu.l1 k x3 x4 ZB (ZB.length:Int) 0 Zx ZU ZB)
def Qu.l1:Nat→Int→Bool→List (List (List Int))→Int→Int→List (S39)→List Int→List (List (List Int))→Option (Int)
 | 0,_,_,_,_,_,_,_,_=>none
 | k+1,x3,x4,x54,x55,x56,Zx,ZU,ZB=>if x56<x55 then (if 0≤x56 then (if x56<(x54.length:Int) then (if x4=true then (Qu.j4 k x3 (((QJ x54 x56).length:Int)==x3) (QJ x54 x56) x54 x55 x56 Zx ZU ZB) else (Qu.j4 k x3 false (QJ x54 x56) x54 x55 x56 Zx ZU ZB)) else (none)) else (none)) else (if x4=true then (some 0) else (some 93))
def Qu.j4:Nat→Int→Bool→List (List Int)→List (List (List Int))→Int→Int→List (S39)→List Int→List (List (List Int))→Option (Int)
 | 0,_,_,_,_,_,_,_,_,_=>none
 | k+1,x3,x4,x7,x54,x55,x56,Zx,ZU,ZB=>Qu.l2 k x3 x4 x54 x55 x56 x7 (x7.length:Int) 0 Zx ZU ZB
def Qu.l2:Nat→Int→Bool→List (List (List Int))→Int→Int→List (List Int)→Int→Int→List (S39)→List Int→List (List (List Int))→Option (Int)
 | 0,_,_,_,_,_,_,_,_,_,_,_=>none
 | k+1,x3,x4,x54,x55,x56,x67,x68,x69,Zx,ZU,ZB=>if x69<x68 then (if 0≤x69 then (if x69<(x67.length:Int) then (if x4=true then ((Qj.f ((Yc x67 x69).length:Int) 1 10).bind fun t196=>(if t196=true then (if 0<(ZB.length:Int) then (if 0<((QJ ZB 0).length:Int) then (Qu.j6 k x3 (((Yc x67 x69).length:Int)==((Yc (QJ ZB 0) 0).length:Int)) (Yc x67 x69) x54 x55 x56 x67 x68 x69 Zx ZU ZB) else (none)) else (none)) else (Qu.j6 k x3 false (Yc x67 x69) x54 x55 x56 x67 x68 x69 Zx ZU ZB))) else (Qu.j6 k x3 false (Yc x67 x69) x54 x55 x56 x67 x68 x69 Zx ZU ZB)) else (none)) else (none)) else (Qu.l1 k x3 x4 x54 x55 (wrap64 (x56+1)) Zx ZU ZB)
def Qu.j6:Nat→Int→Bool→List Int→List (List (List Int))→Int→Int→List (List Int)→Int→Int→List (S39)→List Int→List (List (List Int))→Option (Int)
 | 0,_,_,_,_,_,_,_,_,_,_,_,_=>none
 | k+1,x3,x4,x9,x54,x55,x56,x67,x68,x69,Zx,ZU,ZB=>Qu.l3 k x3 x4 x54 x55 x56 x67 x68 x69 x9 (x9.length:Int) 0 Zx ZU ZB
def Qu.l3:Nat→Int→Bool→List (List (List Int))→Int→Int→List (List Int)→Int→Int→List Int→Int→Int→List (S39)→List Int→List (List (List Int))→Option (Int)
 | 0,_,_,_,_,_,_,_,_,_,_,_,_,_,_=>none
 | k+1,x3,x4,x54,x55,x56,x67,x68,x69,x91,x92,x93,Zx,ZU,ZB=>if x93<x92 then (if 0≤x93 then (if x93<(x91.length:Int) then (if x4=true then ((Qj.f (rd x91 x93) 0 100000).bind fun qht=>(Qu.l3 k x3 qht x54 x55 x56 x67 x68 x69 x91 x92 (wrap64 (x93+1)) Zx ZU ZB)) else (Qu.l3 k x3 false x54 x55 x56 x67 x68 x69 x91 x92 (wrap64 (x93+1)) Zx ZU ZB)) else (none)) else (none)) else (Qu.l2 k x3 x4 x54 x55 x56 x67 x68 (wrap64 (x69+1)) Zx ZU ZB)
end
def Qu.f (k:Nat) (Qb:List (S39)) (Qk:List Int) (Qd:List (List (List Int))):Option (Int):=(Qj.f (Qb.length:Int) 1 3).bind fun qjM=>(if qjM=true then (if (Qk.length:Int)=(Qb.length:Int) then ((Qj.f (Qd.length:Int) 1 6).bind fun qcE=>(Qu.j0 k (Qb.length:Int) qcE Qb Qk Qd)) else (Qu.j0 k (Qb.length:Int) false Qb Qk Qd)) else (Qu.j0 k (Qb.length:Int) false Qb Qk Qd))
set_option maxHeartbeats 8000000 in
set_option maxRecDepth 100000 in
theorem Qu.calls (k:Nat) (Y5:Option Addr) (QK:Nat) (Qb:List (S39)) (Y2:Option Addr) (QM:Nat) (Qk:List Int) (Y7:Option Addr) (QN:Nat) (Qd:List (List (List Int))) (r:Int) (w:World) (Gy:Kd.C k39 w Y5 Qb.length Qb) (GI:Qb.length≤QK) (Gz:Kd.C (Kd.int .i64) w Y2 Qk.length Qk) (GJ:Qk.length≤QM) (GA:Kd.C (Kd.slice 37 (Kd.slice 3 (Kd.int .i64))) w Y7 Qd.length Qd) (GK:Qd.length≤QN) (h:Qu.f k Qb Qk Qd=some r) :
  Calls Try.prog 30 #[.agg #[.slice Y5 Qb.length QK,.slice Y2 Qk.length QM,.slice Y7 Qd.length QN]] w fun e w'=>e = .returned (.int .i64 r)∧Below w.heap.size w w':=by
 have qp3:=Try.underlying47
 have qnC:=Try.underlying39
 have qlk:=Try.underlying111
 have Jt:=Q0.mk Gy
 have JU:=Q0.mk GI
 clear Gy GI
 have JI:=Q0.mk Gz
 have JV:=Q0.mk GJ
 clear Gz GJ
 have JJ:=Q0.mk GA
 have JW:=Q0.mk GK
 clear GA GK
 have HB:=Q0.mk (Below.refl w.heap.size w)
 have H:((Qj.f (Qb.length:Int) 1 3).bind fun qjM=>(if qjM=true then (if (Qk.length:Int)=(Qb.length:Int) then ((Qj.f (Qd.length:Int) 1 6).bind fun qcE=>(Qu.j0 k (Qb.length:Int) qcE Qb Qk Qd)) else (Qu.j0 k (Qb.length:Int) false Qb Qk Qd)) else (Qu.j0 k (Qb.length:Int) false Qb Qk Qd)))=some r:=h
 clear h
 have HC2:=Q0.mk H
 clear H
 go_enter Try.func30,Try.ntmps30
 go_upto_region 2 with (first|((with_reducible refine QW (N:=1) rfl ?_);(try (refine Ga (by rfl) ?_;dsimp only));refine Ym ?hg (N:=1) ?hd (cs:=#[.slice Y5 Qb.length QK,.slice Y2 Qk.length QM,.slice Y7 Qd.length QN]) (t:=47) ?hr ?_;(case hd=>rfl);(case hg=>rfl);(case hr=>first|(go_simp;done)|(go_simp;rfl));intro Jk hg w3 hbox hb;have n0_:=Q0.mk (Qi (by repeat (first|(with_reducible first|exact HB.out|apply Q2|apply Q1|apply Q4)|exact HB.out)) hb);have n1_:=Q0.mk (hbox);have n2_:=Q0.mk ((by rw [hg];exact (Qe (by repeat (first|(with_reducible first|exact HB.out|apply Q2|apply Q1|apply Q4)|exact HB.out))):w.heap.size≤Jk));have n3_:=n2_;clear HB;have HB:=n0_;have YK:=n1_;have qBI:=n2_;have Gg:=n3_;clear n0_ n1_ n2_ n3_ hb hbox hg;have GL:w3.cell? ⟨Jk,0,none⟩=some (.slice Y5 Qb.length QK):=(Q8 YK.out 0).trans rfl;have GM:w3.cell? ⟨Jk,1,none⟩=some (.slice Y2 Qk.length QM):=(Q8 YK.out 1).trans rfl;have Kj:w3.cell? ⟨Jk,2,none⟩=some (.slice Y7 Qd.length QN):=(Q8 YK.out 2).trans rfl;have GN:=Qa YK.out 0;have GQ:=Qa YK.out 1;have Kn:=Qa YK.out 2))
 (try simp only [Act.put,List.setIfInBounds_toArray,List.set_cons_zero,List.set_cons_succ])
 go_cut [4] (fun v4 wc => ∃ (kq:Nat) (qaO:Bool),v4 = .bool qaO∧Q0 (Qu.j0 kq (Qb.length:Int) qaO Qb Qk Qd=some r)∧Q0 (kq≤k)∧Q0 (wc.heap[Jk]? = some (.cells #[(.slice Y5 Qb.length QK),(.slice Y2 Qk.length QM),(.slice Y7 Qd.length QN)] 47 (0,0)))∧Q0 (Below w.heap.size w wc))
 case first =>
  have H:=HC2.out
  clear HC2
  replace H:=Option.bind_eq_some_iff.mp H
  obtain ⟨qjM,A50,H⟩:=H
  replace H:(if qjM=true then (if (Qk.length:Int)=(Qb.length:Int) then ((Qj.f (Qd.length:Int) 1 6).bind fun qcE=>(Qu.j0 k (Qb.length:Int) qcE Qb Qk Qd)) else (Qu.j0 k (Qb.length:Int) false Qb Qk Qd)) else (Qu.j0 k (Qb.length:Int) false Qb Qk Qd))=some r:=H
  have A5:=Q0.mk A50
  clear A50
  by_cases c6:qjM=true
  ·
   subst c6
   have H1:(if (Qk.length:Int)=(Qb.length:Int) then ((Qj.f (Qd.length:Int) 1 6).bind fun qcE=>(Qu.j0 k (Qb.length:Int) qcE Qb Qk Qd)) else (Qu.j0 k (Qb.length:Int) false Qb Qk Qd))=some r:=by rw [if_pos rfl] at H;exact H
   clear H
   have H:=H1
   clear H1
   by_cases c7:(Qk.length:Int)=(Qb.length:Int)
   ·
    rw [if_pos c7] at H;have c7b0:((Qk.length:Int)==(Qb.length:Int))=true:=beq_iff_eq.mpr c7;have c7b1:((Qk.length:Int) != (Qb.length:Int))=false:=bne_eq_false_iff_eq.mpr c7
    have c7b2:(Qk.length==Qb.length)=true:=by first|simpa using c7|(simp at c7 ⊢;omega)
    clear c7
    (first|rw [c7b0]|(simp only [Qp,Qq];rw [c7b0])|skip)
    replace H:=Option.bind_eq_some_iff.mp H;obtain ⟨qcE,A80,H⟩:=H;replace H:(Qu.j0 k (Qb.length:Int) qcE Qb Qk Qd)=some r:=H;have A8:=Q0.mk A80;clear A80;have H':=Q0.mk H;clear H
    go_wp2_with (first|((with_reducible refine Qz (f:=65) rfl ?_);refine Yo (some 16) rfl rfl Try.func65 (by kernel_rfl) rfl #[.int .i64 (Qb.length:Int),.int .i64 1,.int .i64 3] rfl (by (try simp only [List.map_toArray,List.map_cons,List.map_nil]);first|done|rfl|(simp only [List.length_drop,List.length_take];rfl)) ?_;(with_reducible refine (Qj.calls (Qb.length:Int) 1 3 true _ A5.out).mono ?_);rintro e w' ⟨rfl,⟨nd,rfl⟩⟩;refine ⟨_,rfl,?_⟩;have Kk:w3.cell? ⟨Jk,0,none⟩=some (.slice Y5 Qb.length QK):=(Q8 YK.out 0).trans rfl;have Kl:w3.cell? ⟨Jk,1,none⟩=some (.slice Y2 Qk.length QM):=(Q8 YK.out 1).trans rfl;have Km:w3.cell? ⟨Jk,2,none⟩=some (.slice Y7 Qd.length QN):=(Q8 YK.out 2).trans rfl;have Ko:=Qa YK.out 0;have Kp:=Qa YK.out 1;have Kq:=Qa YK.out 2)|(go_at_call 65;(with_reducible refine (Qj.calls (Qd.length:Int) 1 6 qcE _ A8.out).mono ?_);rintro e w' ⟨rfl,⟨nd,rfl⟩⟩))
    go_meet
    case rel=>exact ⟨_,(qcE),(by first|rfl|(simp;done)|(simp [*];done)),H',⟨by first|omega|exact Nat.le_refl _⟩,⟨by (with_reducible repeat (first|refine Q5 ?_ _|refine Q6 ?_|refine Q3 ?_ _));exact YK.out⟩,⟨by repeat (first|(with_reducible first|exact HB.out|apply Q2|apply Q1|apply Q4|refine Q7 ?_ Gg.out)|exact HB.out)⟩⟩
   rw [if_neg c7] at H
   have c7b0:((Qk.length:Int)==(Qb.length:Int))=false:=beq_eq_false_iff_ne.mpr c7
   have c7b1:((Qk.length:Int) != (Qb.length:Int))=true:=bne_iff_ne.mpr c7
   have c7b2:(Qk.length==Qb.length)=false:=by first|simpa using c7|(simp at c7 ⊢;omega)
   (first|rw [c7b0]|(simp only [Qp,Qq];rw [c7b0])|skip)
   have H':=Q0.mk H
   clear H
   go_wp2_with (first|((with_reducible refine Qz (f:=65) rfl ?_);refine Yo (some 16) rfl rfl Try.func65 (by kernel_rfl) rfl #[.int .i64 (Qb.length:Int),.int .i64 1,.int .i64 3] rfl (by (try simp only [List.map_toArray,List.map_cons,List.map_nil]);first|done|rfl|(simp only [List.length_drop,List.length_take];rfl)) ?_;(with_reducible refine (Qj.calls (Qb.length:Int) 1 3 true _ A5.out).mono ?_);rintro e w' ⟨rfl,⟨nd,rfl⟩⟩;refine ⟨_,rfl,?_⟩;have Gl:w3.cell? ⟨Jk,0,none⟩=some (.slice Y5 Qb.length QK):=(Q8 YK.out 0).trans rfl;have Gm:w3.cell? ⟨Jk,1,none⟩=some (.slice Y2 Qk.length QM):=(Q8 YK.out 1).trans rfl;have GY:w3.cell? ⟨Jk,2,none⟩=some (.slice Y7 Qd.length QN):=(Q8 YK.out 2).trans rfl;have Gn:=Qa YK.out 0;have Gp:=Qa YK.out 1;have GZ:=Qa YK.out 2))
   go_meet
   case rel=>exact ⟨_,(false),(by first|rfl|(simp;done)|(simp [*];done)),H',⟨by first|omega|exact Nat.le_refl _⟩,⟨by (with_reducible repeat (first|refine Q5 ?_ _|refine Q6 ?_|refine Q3 ?_ _));exact YK.out⟩,⟨by repeat (first|(with_reducible first|exact HB.out|apply Q2|apply Q1|apply Q4|refine Q7 ?_ Gg.out)|exact HB.out)⟩⟩
  replace c6:=Bool.eq_false_iff.mpr c6
  subst c6
  have H1:(Qu.j0 k (Qb.length:Int) false Qb Qk Qd)=some r:=by rw [if_neg (show ¬ (false=true) by decide)] at H;exact H
  clear H
  have H:=H1
  clear H1
  have H':=Q0.mk H
  clear H
  go_wp2_with (first|((with_reducible refine Qz (f:=65) rfl ?_);refine Yo (some 16) rfl rfl Try.func65 (by kernel_rfl) rfl #[.int .i64 (Qb.length:Int),.int .i64 1,.int .i64 3] rfl (by (try simp only [List.map_toArray,List.map_cons,List.map_nil]);first|done|rfl|(simp only [List.length_drop,List.length_take];rfl)) ?_;(with_reducible refine (Qj.calls (Qb.length:Int) 1 3 false _ A5.out).mono ?_);rintro e w' ⟨rfl,⟨nd,rfl⟩⟩;refine ⟨_,rfl,?_⟩))
  go_meet
  case rel=>exact ⟨_,(false),(by first|rfl|(simp;done)|(simp [*];done)),H',⟨by first|omega|exact Nat.le_refl _⟩,⟨by (with_reducible repeat (first|refine Q5 ?_ _|refine Q6 ?_|refine Q3 ?_ _));exact YK.out⟩,⟨by repeat (first|(with_reducible first|exact HB.out|apply Q2|apply Q1|apply Q4|refine Q7 ?_ Gg.out)|exact HB.out)⟩⟩
 case rest =>
  clear HC2
  try clear p2
  try clear c3
  try clear c6
  try clear c7
  try clear c7b0
  try clear c7b1
  try clear c7b2
  try clear Gl
  try clear Gm
  try clear GY
  try clear GL
  try clear GM
  try clear Kj
  try clear Kk
  try clear Kl
  try clear Km
  try clear Gn
  try clear Gp
  try clear GZ
  try clear GN
  try clear GQ
  try clear Kn
  try clear Ko
  try clear Kp
  try clear Kq
  obtain ⟨kq,qaO,rfl,HA,HJ1,YK,HB⟩:=hcut
  cases kq with
  | zero=>exact absurd HA.out (by simp [Qu.j0])
  | succ kj1 =>
   have H:=HA.out
   clear HA
   simp only [Qu.j0] at H
   have H':=Q0.mk H
   clear H
   go_wp2
   go_loopg [4,5] kj1 (fun kq v4 v5 w' => ∃ (OL:Bool) (QY:Int),v4 = .bool OL∧v5 = .int .i64 QY∧Q0 (Qu.l0 kq (Qb.length:Int) OL QY Qb Qk Qd=some r)∧Q0 (kq≤kj1)∧Q0 (w'.heap[Jk]? = some (.cells #[(.slice Y5 Qb.length QK),(.slice Y2 Qk.length QM),(.slice Y7 Qd.length QN)] 47 (0,0)))∧Q0 (Below w.heap.size w w'))
   case atStart=>exact ⟨(qaO),(0),(by first|rfl|(simp;done)|(simp [*];done)),(by first|rfl|(simp;done)|(simp [*];done)),H',⟨Nat.le_refl _⟩,⟨by (with_reducible repeat (first|refine Q5 ?_ _|refine Q6 ?_|refine Q3 ?_ _));exact YK.out⟩,⟨by repeat (first|(with_reducible first|exact HB.out|apply Q2|apply Q1|apply Q4|refine Q7 ?_ Gg.out)|exact HB.out)⟩⟩
   case round =>
    clear H';(try clear p2);(try clear c3);(try clear c6);(try clear c7);(try clear c7b0);(try clear c7b1);(try clear c7b2);(try clear Gl);(try clear Gm);(try clear GY);(try clear GL);(try clear GM);(try clear Kj);(try clear Kk);(try clear Kl);(try clear Km);(try clear Gn);(try clear Gp);(try clear GZ);(try clear GN);(try clear GQ);(try clear Kn);(try clear Ko);(try clear Kp);(try clear Kq);(try clear p2);obtain ⟨OL,QY,rfl,rfl,HA,HK2,YK,HB⟩:=hrel
    cases gk with
    | zero=>exact absurd HA.out (by simp [Qu.l0])
    | succ k2 =>
     have H:=HA.out;clear HA;simp only [Qu.l0] at H;have qpm:=Q0.mk H;clear H
     go_upto_region 4 with (fail)
     go_cut [35] (fun v35 wc => ∃ (kq:Nat) (qeF:Bool),v35 = .bool qeF∧Q0 (Qu.j2 kq (Qb.length:Int) OL QY qeF Qb Qk Qd=some r)∧Q0 (kq≤k2)∧Q0 (wc.heap[Jk]? = some (.cells #[(.slice Y5 Qb.length QK),(.slice Y2 Qk.length QM),(.slice Y7 Qd.length QN)] 47 (0,0)))∧Q0 (Below w.heap.size w wc))
     case first =>
      have H:=qpm.out;clear qpm
      by_cases c12:OL=true
      ·
       subst c12
       have H1:(Qu.j2 k2 (Qb.length:Int) true QY (decide (QY<(Qb.length:Int))) Qb Qk Qd)=some r:=by rw [if_pos rfl] at H;exact H
       clear H;have H:=H1;clear H1;have H':=Q0.mk H;clear H
       go_wp2
       go_meet
       case rel=>exact ⟨_,(decide (QY<(Qb.length:Int))),(by first|rfl|(simp;done)|(simp [*];done)),H',⟨by have:=HJ1.out;have:=HK2.out;first|omega|exact Nat.le_refl _⟩,⟨by (with_reducible repeat (first|refine Q5 ?_ _|refine Q6 ?_|refine Q3 ?_ _));exact YK.out⟩,⟨by repeat (first|(with_reducible first|exact HB.out|apply Q2|apply Q1|apply Q4|refine Q7 ?_ Gg.out)|exact HB.out)⟩⟩
      replace c12:=Bool.eq_false_iff.mpr c12;subst c12
      have H1:(Qu.j2 k2 (Qb.length:Int) false QY false Qb Qk Qd)=some r:=by rw [if_neg (show ¬ (false=true) by decide)] at H;exact H
      clear H;have H:=H1;clear H1;have H':=Q0.mk H;clear H
      go_wp2
      go_meet
      case rel=>exact ⟨_,(false),(by first|rfl|(simp;done)|(simp [*];done)),H',⟨by have:=HJ1.out;have:=HK2.out;first|omega|exact Nat.le_refl _⟩,⟨by (with_reducible repeat (first|refine Q5 ?_ _|refine Q6 ?_|refine Q3 ?_ _));exact YK.out⟩,⟨by repeat (first|(with_reducible first|exact HB.out|apply Q2|apply Q1|apply Q4|refine Q7 ?_ Gg.out)|exact HB.out)⟩⟩
     case rest =>
      clear qpm;(try clear c1);(try clear p2);(try clear c3);(try clear c6);(try clear c7);(try clear c7b0);(try clear c7b1);(try clear c7b2);(try clear c12);(try clear Gl);(try clear Gm);(try clear GY);(try clear GL);(try clear GM);(try clear Kj);(try clear Kk);(try clear Kl);(try clear Km);(try clear Gn);(try clear Gp);(try clear GZ);(try clear GN);(try clear GQ);(try clear Kn);(try clear Ko);(try clear Kp);(try clear Kq);(try clear p2);obtain ⟨kq,qeF,rfl,HA,Wg,YK,HB⟩:=hcut
      cases kq with
      | zero=>exact absurd HA.out (by simp [Qu.j2])
      | succ Xk =>
       have H:=HA.out;clear HA;simp only [Qu.j2] at H
       by_cases c13:qeF=true
       ·
        subst c13
        have H1:(if 0≤QY then (if QY<(Qb.length:Int) then ((Qn.f Xk ((Qc Qb QY).f0) ((Qc Qb QY).f1) ((Qc Qb QY).f2) ((Qc Qb QY).f3) ((Qc Qb QY).f4)).bind fun qjN=>(if qjN=true then (if QY<(Qk.length:Int) then ((Qj.f (rd Qk QY) 0 100).bind fun t193=>(Qu.l0 Xk (Qb.length:Int) t193 (wrap64 (QY+1)) Qb Qk Qd)) else (none)) else (Qu.l0 Xk (Qb.length:Int) false (wrap64 (QY+1)) Qb Qk Qd))) else (none)) else (none))=some r:=by rw [if_pos rfl] at H;exact H
        clear H;have H:=H1;clear H1
        by_cases c14:0≤QY
        ·
         rw [if_pos c14] at H;have c14b0:decide (0≤QY)=true:=decide_eq_true c14;clear c14
         by_cases c15:QY<(Qb.length:Int)
         ·
          rw [if_pos c15] at H;have c15b0:decide (QY<(Qb.length:Int))=true:=decide_eq_true c15;clear c15;replace H:=Option.bind_eq_some_iff.mp H;obtain ⟨qjN,qke,H⟩:=H;replace H:(if qjN=true then (if QY<(Qk.length:Int) then ((Qj.f (rd Qk QY) 0 100).bind fun t193=>(Qu.l0 Xk (Qb.length:Int) t193 (wrap64 (QY+1)) Qb Qk Qd)) else (none)) else (Qu.l0 Xk (Qb.length:Int) false (wrap64 (QY+1)) Qb Qk Qd))=some r:=H;have A16:=Q0.mk qke;clear qke
          by_cases c17:qjN=true
          ·
           subst c17
           have H1:(if QY<(Qk.length:Int) then ((Qj.f (rd Qk QY) 0 100).bind fun t193=>(Qu.l0 Xk (Qb.length:Int) t193 (wrap64 (QY+1)) Qb Qk Qd)) else (none))=some r:=by rw [if_pos rfl] at H;exact H
           clear H;have H:=H1;clear H1
           by_cases c18:QY<(Qk.length:Int)
           ·
            rw [if_pos c18] at H;have c18b0:decide (QY<(Qk.length:Int))=true:=decide_eq_true c18;clear c18;replace H:=Option.bind_eq_some_iff.mp H;obtain ⟨t193,qqt,H⟩:=H;replace H:(Qu.l0 Xk (Qb.length:Int) t193 (wrap64 (QY+1)) Qb Qk Qd)=some r:=H;have A19:=Q0.mk qqt;clear qqt;have H':=Q0.mk H;clear H;have XM:wc.cell? ⟨Jk,0,none⟩=some (.slice Y5 Qb.length QK):=(Q8 YK.out 0).trans rfl;have XN:wc.cell? ⟨Jk,1,none⟩=some (.slice Y2 Qk.length QM):=(Q8 YK.out 1).trans rfl;have XO:wc.cell? ⟨Jk,2,none⟩=some (.slice Y7 Qd.length QN):=(Q8 YK.out 2).trans rfl;have XX:=Qa YK.out 0;have XY:=Qa YK.out 1;have XZ:=Qa YK.out 2;have qbn:0≤(QY:Int):=of_decide_eq_true (by first|(with_reducible assumption)|assumption);have qbo:QY<(Qb.length:Int):=of_decide_eq_true (by first|(with_reducible assumption)|assumption);obtain ⟨qh2,qgp,qgB,qgq,qgC,qgr,qgD,e190,K0,K1,K2,Ka,Kb,qam,qah,qan,qai,qao,qaj⟩:=qgy Jt.out QY qbn qbo;cases e190;replace K0:=(HB.out.cell (World.block_lt_of_cell? w _ K0)).trans K0;replace K1:=(HB.out.cell (World.block_lt_of_cell? w _ K1)).trans K1;replace K2:=(HB.out.cell (World.block_lt_of_cell? w _ K2)).trans K2;replace Ka:=(HB.out.cell (World.block_lt_of_cell? w _ Ka)).trans Ka;replace Kb:=(HB.out.cell (World.block_lt_of_cell? w _ Kb)).trans Kb;have qdo:=Q0.mk qah;have qdl:=Q0.mk qam;clear qah qam;have qdp:=Q0.mk qai;have qdm:=Q0.mk qan;clear qai qan;have qdq:=Q0.mk qaj;have qdn:=Q0.mk qao;clear qaj qao;replace qbn:=eq_true qbn;replace qbo:=eq_true qbo
            go_wp2_with (first|((with_reducible refine Qz (f:=76) rfl ?_);refine Yo (some 44) rfl rfl Try.func76 (by kernel_rfl) rfl #[.agg #[.slice qgp ((Qc Qb QY).f0).length qgB,.slice qgq ((Qc Qb QY).f1).length qgC,.slice qgr ((Qc Qb QY).f2).length qgD,.int .i64 ((Qc Qb QY).f3),.int .i64 ((Qc Qb QY).f4)]] rfl (by (try simp only [List.map_toArray,List.map_cons,List.map_nil]);first|done|rfl|(simp only [List.length_drop,List.length_take];rfl)) ?_;(with_reducible refine (Qn.calls Xk _ _ ((Qc Qb QY).f0) _ _ ((Qc Qb QY).f1) _ _ ((Qc Qb QY).f2) ((Qc Qb QY).f3) ((Qc Qb QY).f4) true _ ?side1 ?side2 ?side3 ?side4 ?side5 ?side6 A16.out).mono ?_);(case side1=>repeat (first|exact (Kd.C_below qdo.out HB.out)|(with_reducible refine Kd.C_alloc ?_ _)|(with_reducible refine Kd.C_drewN ?_ _)|(with_reducible refine Kd.C_drew ?_)));(case side2=>exact qdl.out);(case side3=>repeat (first|exact (Kd.C_below qdp.out HB.out)|(with_reducible refine Kd.C_alloc ?_ _)|(with_reducible refine Kd.C_drewN ?_ _)|(with_reducible refine Kd.C_drew ?_)));(case side4=>exact qdm.out);(case side5=>repeat (first|exact (Kd.C_below qdq.out HB.out)|(with_reducible refine Kd.C_alloc ?_ _)|(with_reducible refine Kd.C_drewN ?_ _)|(with_reducible refine Kd.C_drew ?_)));(case side6=>exact qdn.out);rintro e w21 ⟨rfl,hb⟩;refine ⟨_,rfl,?_⟩;have n0_:=Q0.mk (Qf (g:=Jk) (by (with_reducible repeat (first|refine Q5 ?_ _|refine Q6 ?_|refine Q3 ?_ _));exact YK.out) hb);have n1_:=Q0.mk (Qi (by repeat (first|(with_reducible first|exact HB.out|apply Q2|apply Q1|apply Q4|refine Q7 ?_ Gg.out)|exact HB.out)) hb);clear YK HB;have YK:=n0_;have HB:=n1_;clear n0_ n1_;(try clear hb);(try clear hb2);(try clear hk);(try clear hi);have WC:w21.cell? ⟨Jk,0,none⟩=some (.slice (some qh2) Qb.length QK):=(Q8 YK.out 0).trans rfl;have WE:w21.cell? ⟨Jk,1,none⟩=some (.slice Y2 Qk.length QM):=(Q8 YK.out 1).trans rfl;have WF:w21.cell? ⟨Jk,2,none⟩=some (.slice Y7 Qd.length QN):=(Q8 YK.out 2).trans rfl;have WG:=Qa YK.out 0;have WH:=Qa YK.out 1;have WI:=Qa YK.out 2;have qfO:0≤(QY:Int):=of_decide_eq_true (by first|(with_reducible assumption)|assumption);have qfS:QY<(Qk.length:Int):=of_decide_eq_true (by first|(with_reducible assumption)|assumption);obtain ⟨qBV,qAg,Ui⟩:=Kd.at_int JI.out QY qfO qfS;cases qAg;replace Ui:=(HB.out.cell (World.block_lt_of_cell? w _ Ui)).trans Ui;replace qfO:=eq_true qfO;replace qfS:=eq_true qfS)|(go_at_call 65;(with_reducible refine (Qj.calls (rd Qk QY) 0 100 t193 _ A19.out).mono ?_);rintro e w' ⟨rfl,⟨nd,rfl⟩⟩))
            go_roundg Xk
            case measure=>have:=HJ1.out;have:=HK2.out;have:=Wg.out;omega
            case rel=>exact ⟨(t193),(wrap64 (QY+1)),(by first|rfl|(simp;done)|(simp [*];done)),(by first|rfl|(simp;done)|(simp [*];done)),H',⟨by have:=HJ1.out;have:=HK2.out;have:=Wg.out;omega⟩,⟨by (with_reducible repeat (first|refine Q5 ?_ _|refine Q6 ?_|refine Q3 ?_ _));exact YK.out⟩,⟨by repeat (first|(with_reducible first|exact HB.out|apply Q2|apply Q1|apply Q4|refine Q7 ?_ Gg.out)|exact HB.out)⟩⟩
           rw [if_neg c18] at H
           exact absurd H (by simp)
          replace c17:=Bool.eq_false_iff.mpr c17;subst c17
          have H1:(Qu.l0 Xk (Qb.length:Int) false (wrap64 (QY+1)) Qb Qk Qd)=some r:=by rw [if_neg (show ¬ (false=true) by decide)] at H;exact H
          clear H;have H:=H1;clear H1;have H':=Q0.mk H;clear H;have XP:wc.cell? ⟨Jk,0,none⟩=some (.slice Y5 Qb.length QK):=(Q8 YK.out 0).trans rfl;have XQ:wc.cell? ⟨Jk,1,none⟩=some (.slice Y2 Qk.length QM):=(Q8 YK.out 1).trans rfl;have XR:wc.cell? ⟨Jk,2,none⟩=some (.slice Y7 Qd.length QN):=(Q8 YK.out 2).trans rfl;have qaa:=Qa YK.out 0;have qab:=Qa YK.out 1;have qac:=Qa YK.out 2;have qbn:0≤(QY:Int):=of_decide_eq_true (by first|(with_reducible assumption)|assumption);have qbo:QY<(Qb.length:Int):=of_decide_eq_true (by first|(with_reducible assumption)|assumption);obtain ⟨qh2,qgp,qgB,qgq,qgC,qgr,qgD,e190,K0,K1,K2,Ka,Kb,qam,qah,qan,qai,qao,qaj⟩:=qgy Jt.out QY qbn qbo;cases e190;replace K0:=(HB.out.cell (World.block_lt_of_cell? w _ K0)).trans K0;replace K1:=(HB.out.cell (World.block_lt_of_cell? w _ K1)).trans K1;replace K2:=(HB.out.cell (World.block_lt_of_cell? w _ K2)).trans K2;replace Ka:=(HB.out.cell (World.block_lt_of_cell? w _ Ka)).trans Ka;replace Kb:=(HB.out.cell (World.block_lt_of_cell? w _ Kb)).trans Kb;have qdo:=Q0.mk qah;have qdl:=Q0.mk qam;clear qah qam;have qdp:=Q0.mk qai;have qdm:=Q0.mk qan;clear qai qan;have qdq:=Q0.mk qaj;have qdn:=Q0.mk qao;clear qaj qao;replace qbn:=eq_true qbn;replace qbo:=eq_true qbo
          go_wp2_with (first|((with_reducible refine Qz (f:=76) rfl ?_);refine Yo (some 44) rfl rfl Try.func76 (by kernel_rfl) rfl #[.agg #[.slice qgp ((Qc Qb QY).f0).length qgB,.slice qgq ((Qc Qb QY).f1).length qgC,.slice qgr ((Qc Qb QY).f2).length qgD,.int .i64 ((Qc Qb QY).f3),.int .i64 ((Qc Qb QY).f4)]] rfl (by (try simp only [List.map_toArray,List.map_cons,List.map_nil]);first|done|rfl|(simp only [List.length_drop,List.length_take];rfl)) ?_;(with_reducible refine (Qn.calls Xk _ _ ((Qc Qb QY).f0) _ _ ((Qc Qb QY).f1) _ _ ((Qc Qb QY).f2) ((Qc Qb QY).f3) ((Qc Qb QY).f4) false _ ?side1 ?side2 ?side3 ?side4 ?side5 ?side6 A16.out).mono ?_);(case side1=>repeat (first|exact (Kd.C_below qdo.out HB.out)|(with_reducible refine Kd.C_alloc ?_ _)|(with_reducible refine Kd.C_drewN ?_ _)|(with_reducible refine Kd.C_drew ?_)));(case side2=>exact qdl.out);(case side3=>repeat (first|exact (Kd.C_below qdp.out HB.out)|(with_reducible refine Kd.C_alloc ?_ _)|(with_reducible refine Kd.C_drewN ?_ _)|(with_reducible refine Kd.C_drew ?_)));(case side4=>exact qdm.out);(case side5=>repeat (first|exact (Kd.C_below qdq.out HB.out)|(with_reducible refine Kd.C_alloc ?_ _)|(with_reducible refine Kd.C_drewN ?_ _)|(with_reducible refine Kd.C_drew ?_)));(case side6=>exact qdn.out);rintro e w24 ⟨rfl,hb⟩;refine ⟨_,rfl,?_⟩;have n0_:=Q0.mk (Qf (g:=Jk) (by (with_reducible repeat (first|refine Q5 ?_ _|refine Q6 ?_|refine Q3 ?_ _));exact YK.out) hb);have n1_:=Q0.mk (Qi (by repeat (first|(with_reducible first|exact HB.out|apply Q2|apply Q1|apply Q4|refine Q7 ?_ Gg.out)|exact HB.out)) hb);clear YK HB;have YK:=n0_;have HB:=n1_;clear n0_ n1_;(try clear hb);(try clear hb2);(try clear hk);(try clear hi)))
          go_roundg Xk
          case measure=>have:=HJ1.out;have:=HK2.out;have:=Wg.out;omega
          case rel=>exact ⟨(false),(wrap64 (QY+1)),(by first|rfl|(simp;done)|(simp [*];done)),(by first|rfl|(simp;done)|(simp [*];done)),H',⟨by have:=HJ1.out;have:=HK2.out;have:=Wg.out;omega⟩,⟨by (with_reducible repeat (first|refine Q5 ?_ _|refine Q6 ?_|refine Q3 ?_ _));exact YK.out⟩,⟨by repeat (first|(with_reducible first|exact HB.out|apply Q2|apply Q1|apply Q4|refine Q7 ?_ Gg.out)|exact HB.out)⟩⟩
         rw [if_neg c15] at H
         exact absurd H (by simp)
        rw [if_neg c14] at H
        exact absurd H (by simp)
       replace c13:=Bool.eq_false_iff.mpr c13;subst c13
       have H1:(Qu.l1 Xk (Qb.length:Int) OL Qd (Qd.length:Int) 0 Qb Qk Qd)=some r:=by rw [if_neg (show ¬ (false=true) by decide)] at H;exact H
       clear H;have H:=H1;clear H1;have H':=Q0.mk H;clear H;have XS:wc.cell? ⟨Jk,0,none⟩=some (.slice Y5 Qb.length QK):=(Q8 YK.out 0).trans rfl;have XT:wc.cell? ⟨Jk,1,none⟩=some (.slice Y2 Qk.length QM):=(Q8 YK.out 1).trans rfl;have XU:wc.cell? ⟨Jk,2,none⟩=some (.slice Y7 Qd.length QN):=(Q8 YK.out 2).trans rfl;have qad:=Qa YK.out 0;have qae:=Qa YK.out 1;have qaf:=Qa YK.out 2
       go_wp2
       go_loopg [4,56] Xk (fun kq v4 v56 w' => ∃ (qlU:Bool) (Yp:Int),v4 = .bool qlU∧v56 = .int .i64 Yp∧Q0 (Qu.l1 kq (Qb.length:Int) qlU Qd (Qd.length:Int) Yp Qb Qk Qd=some r)∧Q0 (kq≤Xk)∧Q0 (w'.heap[Jk]? = some (.cells #[(.slice Y5 Qb.length QK),(.slice Y2 Qk.length QM),(.slice Y7 Qd.length QN)] 47 (0,0)))∧Q0 (Below w.heap.size w w'))
       case atStart=>exact ⟨(OL),(0),(by first|rfl|(simp;done)|(simp [*];done)),(by first|rfl|(simp;done)|(simp [*];done)),H',⟨Nat.le_refl _⟩,⟨by (with_reducible repeat (first|refine Q5 ?_ _|refine Q6 ?_|refine Q3 ?_ _));exact YK.out⟩,⟨by repeat (first|(with_reducible first|exact HB.out|apply Q2|apply Q1|apply Q4|refine Q7 ?_ Gg.out)|exact HB.out)⟩⟩
       case round =>
        clear H';(try clear c1);(try clear p1);(try clear q1);(try clear hx1);(try clear p2);(try clear c3);(try clear c6);(try clear p6);(try clear c7);(try clear c7b0);(try clear c7b1);(try clear c7b2);(try clear c12);(try clear c13);(try clear c14);(try clear c14b0);(try clear c15);(try clear c15b0);(try clear c17);(try clear c18);(try clear c18b0);(try clear c19);(try clear p19);(try clear q19);(try clear qnJ);(try clear Gl);(try clear Gm);(try clear GY);(try clear XM);(try clear XN);(try clear XO);(try clear WC);(try clear WE);(try clear WF);(try clear XP);(try clear XQ);(try clear XR);(try clear XS);(try clear XT);(try clear XU);(try clear GL);(try clear GM);(try clear Kj);(try clear Kk);(try clear Kl);(try clear Km);(try clear Gn);(try clear Gp);(try clear GZ);(try clear XX);(try clear XY);(try clear XZ);(try clear WG);(try clear WH);(try clear WI);(try clear qaa);(try clear qab);(try clear qac);(try clear qad);(try clear qae);(try clear qaf);(try clear GN);(try clear GQ);(try clear Kn);(try clear Ko);(try clear Kp);(try clear Kq);(try clear K0);(try clear K1);(try clear K2);(try clear Ka);(try clear Kb);(try clear Ui);(try clear qbn);(try clear qfO);(try clear p2);(try clear qbo);(try clear qfS);obtain ⟨qlU,Yp,rfl,rfl,HA,HK4,YK,HB⟩:=hrel
        cases gk with
        | zero=>exact absurd HA.out (by simp [Qu.l1])
        | succ k4 =>
         have H:=HA.out;clear HA;simp only [Qu.l1] at H
         by_cases c26:Yp<(Qd.length:Int)
         ·
          rw [if_pos c26] at H;have c26b0:decide (Yp<(Qd.length:Int))=true:=decide_eq_true c26;clear c26
          by_cases c27:0≤Yp
          ·
           rw [if_pos c27] at H;have c27b0:decide (0≤Yp)=true:=decide_eq_true c27;clear c27
           by_cases c28:Yp<(Qd.length:Int)
           ·
            rw [if_pos c28] at H;have c28b0:decide (Yp<(Qd.length:Int))=true:=decide_eq_true c28;clear c28;have qpp:=Q0.mk H;clear H;have qg5:0≤(Yp:Int):=of_decide_eq_true (by first|(with_reducible assumption)|assumption);have qhi:Yp<(Qd.length:Int):=of_decide_eq_true (by first|(with_reducible assumption)|assumption);obtain ⟨qdd,qzM,qz3,qAh,UW,qiw,qij⟩:=qkL JJ.out Yp qg5 qhi;cases qAh;replace UW:=(HB.out.cell (World.block_lt_of_cell? w _ UW)).trans UW;have ql7:=Q0.mk qij;have qtX:=Q0.mk qiw;clear qij qiw;replace qg5:=eq_true qg5;replace qhi:=eq_true qhi
            go_upto_region 10 with (fail)
            go_cut [4] (fun v4 wc => ∃ (kq:Nat) (qi0:Bool),v4 = .bool qi0∧Q0 (Qu.j4 kq (Qb.length:Int) qi0 (QJ Qd Yp) Qd (Qd.length:Int) Yp Qb Qk Qd=some r)∧Q0 (kq≤k4)∧Q0 (wc.heap[Jk]? = some (.cells #[(.slice Y5 Qb.length QK),(.slice Y2 Qk.length QM),(.slice (some qdd) Qd.length QN)] 47 (0,0)))∧Q0 (Below w.heap.size w wc))
            case first =>
             have H:=qpp.out;clear qpp
             by_cases c30:qlU=true
             ·
              subst c30
              have H1:(Qu.j4 k4 (Qb.length:Int) (((QJ Qd Yp).length:Int)==(Qb.length:Int)) (QJ Qd Yp) Qd (Qd.length:Int) Yp Qb Qk Qd)=some r:=by rw [if_pos rfl] at H;exact H
              clear H;have H:=H1;clear H1;have H':=Q0.mk H;clear H
              go_wp2
              go_meet
              case rel=>exact ⟨_,((((QJ Qd Yp).length:Int)==(Qb.length:Int))),(by first|rfl|(simp;done)|(simp [*];done)),H',⟨by have:=HJ1.out;have:=HK2.out;have:=Wg.out;have:=HK4.out;first|omega|exact Nat.le_refl _⟩,⟨by (with_reducible repeat (first|refine Q5 ?_ _|refine Q6 ?_|refine Q3 ?_ _));exact YK.out⟩,⟨by repeat (first|(with_reducible first|exact HB.out|apply Q2|apply Q1|apply Q4|refine Q7 ?_ Gg.out)|exact HB.out)⟩⟩
             replace c30:=Bool.eq_false_iff.mpr c30;subst c30
             have H1:(Qu.j4 k4 (Qb.length:Int) false (QJ Qd Yp) Qd (Qd.length:Int) Yp Qb Qk Qd)=some r:=by rw [if_neg (show ¬ (false=true) by decide)] at H;exact H
             clear H;have H:=H1;clear H1;have H':=Q0.mk H;clear H
             go_wp2
             go_meet
             case rel=>exact ⟨_,(false),(by first|rfl|(simp;done)|(simp [*];done)),H',⟨by have:=HJ1.out;have:=HK2.out;have:=Wg.out;have:=HK4.out;first|omega|exact Nat.le_refl _⟩,⟨by (with_reducible repeat (first|refine Q5 ?_ _|refine Q6 ?_|refine Q3 ?_ _));exact YK.out⟩,⟨by repeat (first|(with_reducible first|exact HB.out|apply Q2|apply Q1|apply Q4|refine Q7 ?_ Gg.out)|exact HB.out)⟩⟩
            case rest =>
             clear qpp;(try clear c1);(try clear p1);(try clear q1);(try clear hx1);(try clear c2);(try clear p2);(try clear c3);(try clear c6);(try clear p6);(try clear c7);(try clear c7b0);(try clear c7b1);(try clear c7b2);(try clear c12);(try clear c13);(try clear c14);(try clear c14b0);(try clear c15);(try clear c15b0);(try clear c17);(try clear c18);(try clear c18b0);(try clear c19);(try clear p19);(try clear q19);(try clear qnJ);(try clear c26);(try clear c26b0);(try clear c27);(try clear c27b0);(try clear c28);(try clear c28b0);(try clear c30);(try clear Gl);(try clear Gm);(try clear GY);(try clear XM);(try clear XN);(try clear XO);(try clear WC);(try clear WE);(try clear WF);(try clear XP);(try clear XQ);(try clear XR);(try clear XS);(try clear XT);(try clear XU);(try clear GL);(try clear GM);(try clear Kj);(try clear Kk);(try clear Kl);(try clear Km);(try clear Gn);(try clear Gp);(try clear GZ);(try clear XX);(try clear XY);(try clear XZ);(try clear WG);(try clear WH);(try clear WI);(try clear qaa);(try clear qab);(try clear qac);(try clear qad);(try clear qae);(try clear qaf);(try clear GN);(try clear GQ);(try clear Kn);(try clear Ko);(try clear Kp);(try clear Kq);(try clear K0);(try clear K1);(try clear K2);(try clear Ka);(try clear Kb);(try clear Ui);(try clear UW);(try clear p1);(try clear p19);(try clear qbn);(try clear qfO);(try clear qg5);(try clear p2);(try clear p6);(try clear q1);(try clear q19);(try clear qbo);(try clear qfS);(try clear qhi);obtain ⟨kq,qi0,rfl,HA,qcf,YK,HB⟩:=hcut
             cases kq with
             | zero=>exact absurd HA.out (by simp [Qu.j4])
             | succ qtO =>
              have H:=HA.out;clear HA;simp only [Qu.j4] at H;have H':=Q0.mk H;clear H
              go_wp2
              go_loopg [4,69] qtO (fun kq v4 v69 w' => ∃ (qlV:Bool) (Zk:Int),v4 = .bool qlV∧v69 = .int .i64 Zk∧Q0 (Qu.l2 kq (Qb.length:Int) qlV Qd (Qd.length:Int) Yp (QJ Qd Yp) ((QJ Qd Yp).length:Int) Zk Qb Qk Qd=some r)∧Q0 (kq≤qtO)∧Q0 (w'.heap[Jk]? = some (.cells #[(.slice Y5 Qb.length QK),(.slice Y2 Qk.length QM),(.slice (some qdd) Qd.length QN)] 47 (0,0)))∧Q0 (Below w.heap.size w w'))
              case atStart=>exact ⟨(qi0),(0),(by first|rfl|(simp;done)|(simp [*];done)),(by first|rfl|(simp;done)|(simp [*];done)),H',⟨Nat.le_refl _⟩,⟨by (with_reducible repeat (first|refine Q5 ?_ _|refine Q6 ?_|refine Q3 ?_ _));exact YK.out⟩,⟨by repeat (first|(with_reducible first|exact HB.out|apply Q2|apply Q1|apply Q4|refine Q7 ?_ Gg.out)|exact HB.out)⟩⟩
              case round =>
               clear H';(try clear c1);(try clear p1);(try clear q1);(try clear hx1);(try clear c2);(try clear p2);(try clear c3);(try clear c6);(try clear p6);(try clear c7);(try clear c7b0);(try clear c7b1);(try clear c7b2);(try clear c12);(try clear c13);(try clear c14);(try clear c14b0);(try clear c15);(try clear c15b0);(try clear c17);(try clear c18);(try clear c18b0);(try clear c19);(try clear p19);(try clear q19);(try clear qnJ);(try clear c26);(try clear c26b0);(try clear c27);(try clear c27b0);(try clear c28);(try clear c28b0);(try clear c30);(try clear Gl);(try clear Gm);(try clear GY);(try clear XM);(try clear XN);(try clear XO);(try clear WC);(try clear WE);(try clear WF);(try clear XP);(try clear XQ);(try clear XR);(try clear XS);(try clear XT);(try clear XU);(try clear GL);(try clear GM);(try clear Kj);(try clear Kk);(try clear Kl);(try clear Km);(try clear Gn);(try clear Gp);(try clear GZ);(try clear XX);(try clear XY);(try clear XZ);(try clear WG);(try clear WH);(try clear WI);(try clear qaa);(try clear qab);(try clear qac);(try clear qad);(try clear qae);(try clear qaf);(try clear GN);(try clear GQ);(try clear Kn);(try clear Ko);(try clear Kp);(try clear Kq);(try clear K0);(try clear K1);(try clear K2);(try clear Ka);(try clear Kb);(try clear Ui);(try clear UW);(try clear p1);(try clear p19);(try clear qbn);(try clear qfO);(try clear qg5);(try clear p2);(try clear p6);(try clear q1);(try clear q19);(try clear qbo);(try clear qfS);(try clear qhi);obtain ⟨qlV,Zk,rfl,rfl,HA,HK6,YK,HB⟩:=hrel
               cases gk with
               | zero=>exact absurd HA.out (by simp [Qu.l2])
               | succ k6 =>
                have H:=HA.out;clear HA;simp only [Qu.l2] at H
                by_cases c31:Zk<((QJ Qd Yp).length:Int)
                ·
                 rw [if_pos c31] at H;have c31b0:decide (Zk<((QJ Qd Yp).length:Int))=true:=decide_eq_true c31;clear c31
                 by_cases c32:0≤Zk
                 ·
                  rw [if_pos c32] at H;have c32b0:decide (0≤Zk)=true:=decide_eq_true c32;clear c32
                  by_cases c33:Zk<((QJ Qd Yp).length:Int)
                  ·
                   rw [if_pos c33] at H;have c33b0:decide (Zk<((QJ Qd Yp).length:Int))=true:=decide_eq_true c33;clear c33;have qpr:=Q0.mk H;clear H;have qly:0≤(Zk:Int):=of_decide_eq_true (by first|(with_reducible assumption)|assumption);have qlB:Zk<((QJ Qd Yp).length:Int):=of_decide_eq_true (by first|(with_reducible assumption)|assumption);obtain ⟨qBW,qzN,qz4,e195,qas,qix,qik⟩:=qh5 ql7.out Zk qly qlB;cases e195;replace qas:=(HB.out.cell (World.block_lt_of_cell? w _ qas)).trans qas;have qhX:=Q0.mk qik;have qtY:=Q0.mk qix;clear qik qix;replace qly:=eq_true qly;replace qlB:=eq_true qlB
                   go_upto_region 14 with (fail)
                   go_cut [4] (fun v4 wc => ∃ (kq:Nat) (qi2:Bool),v4 = .bool qi2∧Q0 (Qu.j6 kq (Qb.length:Int) qi2 (Yc (QJ Qd Yp) Zk) Qd (Qd.length:Int) Yp (QJ Qd Yp) ((QJ Qd Yp).length:Int) Zk Qb Qk Qd=some r)∧Q0 (kq≤k6)∧Q0 (wc.heap[Jk]? = some (.cells #[(.slice Y5 Qb.length QK),(.slice Y2 Qk.length QM),(.slice (some qdd) Qd.length QN)] 47 (0,0)))∧Q0 (Below w.heap.size w wc))
                   case first =>
                    have H:=qpr.out;clear qpr
                    by_cases c35:qlV=true
                    ·
                     subst c35
                     have H1:((Qj.f ((Yc (QJ Qd Yp) Zk).length:Int) 1 10).bind fun t196=>(if t196=true then (if 0<(Qd.length:Int) then (if 0<((QJ Qd 0).length:Int) then (Qu.j6 k6 (Qb.length:Int) (((Yc (QJ Qd Yp) Zk).length:Int)==((Yc (QJ Qd 0) 0).length:Int)) (Yc (QJ Qd Yp) Zk) Qd (Qd.length:Int) Yp (QJ Qd Yp) ((QJ Qd Yp).length:Int) Zk Qb Qk Qd) else (none)) else (none)) else (Qu.j6 k6 (Qb.length:Int) false (Yc (QJ Qd Yp) Zk) Qd (Qd.length:Int) Yp (QJ Qd Yp) ((QJ Qd Yp).length:Int) Zk Qb Qk Qd)))=some r:=by rw [if_pos rfl] at H;exact H
                     clear H;have H:=H1;clear H1;replace H:=Option.bind_eq_some_iff.mp H;obtain ⟨t196,qqB,H⟩:=H;replace H:(if t196=true then (if 0<(Qd.length:Int) then (if 0<((QJ Qd 0).length:Int) then (Qu.j6 k6 (Qb.length:Int) (((Yc (QJ Qd Yp) Zk).length:Int)==((Yc (QJ Qd 0) 0).length:Int)) (Yc (QJ Qd Yp) Zk) Qd (Qd.length:Int) Yp (QJ Qd Yp) ((QJ Qd Yp).length:Int) Zk Qb Qk Qd) else (none)) else (none)) else (Qu.j6 k6 (Qb.length:Int) false (Yc (QJ Qd Yp) Zk) Qd (Qd.length:Int) Yp (QJ Qd Yp) ((QJ Qd Yp).length:Int) Zk Qb Qk Qd))=some r:=H;have A36:=Q0.mk qqB;clear qqB
                     by_cases c37:t196=true
                     ·
                      subst c37
                      have H1:(if 0<(Qd.length:Int) then (if 0<((QJ Qd 0).length:Int) then (Qu.j6 k6 (Qb.length:Int) (((Yc (QJ Qd Yp) Zk).length:Int)==((Yc (QJ Qd 0) 0).length:Int)) (Yc (QJ Qd Yp) Zk) Qd (Qd.length:Int) Yp (QJ Qd Yp) ((QJ Qd Yp).length:Int) Zk Qb Qk Qd) else (none)) else (none))=some r:=by rw [if_pos rfl] at H;exact H
                      clear H;have H:=H1;clear H1
                      by_cases c38:0<(Qd.length:Int)
                      ·
                       rw [if_pos c38] at H;have c38b0:decide (0<(Qd.length:Int))=true:=decide_eq_true c38;have c38b1:decide (0<Qd.length)=true:=decide_eq_true (by omega);clear c38
                       (first|rw [c38b0]|(simp only [Qp,Qq];rw [c38b0])|skip)
                       by_cases c39:0<((QJ Qd 0).length:Int)
                       ·
                        rw [if_pos c39] at H;have c39b0:decide (0<((QJ Qd 0).length:Int))=true:=decide_eq_true c39;have c39b1:decide (0<(QJ Qd 0).length)=true:=decide_eq_true (by omega);clear c39;have H':=Q0.mk H;clear H
                        go_wp2_with (first|(go_at_call 65;(with_reducible refine (Qj.calls ((Yc (QJ Qd Yp) Zk).length:Int) 1 10 true _ A36.out).mono ?_);rintro e w' ⟨rfl,⟨nd,rfl⟩⟩;have qbF:wr.cell? ⟨Jk,0,none⟩=some (.slice Y5 Qb.length QK):=(Q8 YK.out 0).trans rfl;have qbG:wr.cell? ⟨Jk,1,none⟩=some (.slice Y2 Qk.length QM):=(Q8 YK.out 1).trans rfl;have qbH:wr.cell? ⟨Jk,2,none⟩=some (.slice (some qdd) Qd.length QN):=(Q8 YK.out 2).trans rfl;have qbQ:=Qa YK.out 0;have qbR:=Qa YK.out 1;have qbS:=Qa YK.out 2;have qlz:0≤(0:Int):=(by omega);have qlC:0<(Qd.length:Int):=of_decide_eq_true (by first|(with_reducible assumption)|assumption);obtain ⟨qrx,qzO,qz5,e197,UX,qiy,qil⟩:=qkL JJ.out 0 qlz qlC;obtain rfl:qdd=qrx:=(by injection e197);have qDG:(0<Qd.length)=True:=eq_true (by omega);(try rw [show ((0:Int)).toNat=0 from rfl] at UX);(try rw [Addr.add_zero'] at UX);replace UX:=(HB.out.cell (World.block_lt_of_cell? w _ UX)).trans UX;have ql8:=Q0.mk qil;have qtZ:=Q0.mk qiy;clear qil qiy;replace qlz:=eq_true qlz;replace qlC:=eq_true qlC;have qlA:0≤(0:Int):=(by omega);have qlD:0<((QJ Qd 0).length:Int):=of_decide_eq_true (by first|(with_reducible assumption)|assumption);obtain ⟨qBX,qzP,qz6,qAi,UY,qiz,qim⟩:=qh5 ql8.out 0 qlA qlD;cases qAi;have qDH:(0<(QJ Qd 0).length)=True:=eq_true (by omega);(try rw [show ((0:Int)).toNat=0 from rfl] at UY);(try rw [Addr.add_zero'] at UY);replace UY:=(HB.out.cell (World.block_lt_of_cell? w _ UY)).trans UY;have qt6:=Q0.mk qim;have qt0:=Q0.mk qiz;clear qim qiz;replace qlA:=eq_true qlA;replace qlD:=eq_true qlD))
                        go_meet
                        case rel=>exact ⟨_,((((Yc (QJ Qd Yp) Zk).length:Int)==((Yc (QJ Qd 0) 0).length:Int))),(by first|rfl|(simp;done)|(simp [*];done)),H',⟨by have:=HJ1.out;have:=HK2.out;have:=Wg.out;have:=HK4.out;have:=qcf.out;have:=HK6.out;first|omega|exact Nat.le_refl _⟩,⟨by (with_reducible repeat (first|refine Q5 ?_ _|refine Q6 ?_|refine Q3 ?_ _));exact YK.out⟩,⟨by repeat (first|(with_reducible first|exact HB.out|apply Q2|apply Q1|apply Q4|refine Q7 ?_ Gg.out)|exact HB.out)⟩⟩
                       rw [if_neg c39] at H
                       exact absurd H (by simp)
                      rw [if_neg c38] at H
                      exact absurd H (by simp)
                     replace c37:=Bool.eq_false_iff.mpr c37;subst c37
                     have H1:(Qu.j6 k6 (Qb.length:Int) false (Yc (QJ Qd Yp) Zk) Qd (Qd.length:Int) Yp (QJ Qd Yp) ((QJ Qd Yp).length:Int) Zk Qb Qk Qd)=some r:=by rw [if_neg (show ¬ (false=true) by decide)] at H;exact H
                     clear H;have H:=H1;clear H1;have H':=Q0.mk H;clear H
                     go_wp2_with (first|(go_at_call 65;(with_reducible refine (Qj.calls ((Yc (QJ Qd Yp) Zk).length:Int) 1 10 false _ A36.out).mono ?_);rintro e w' ⟨rfl,⟨nd,rfl⟩⟩))
                     go_meet
                     case rel=>exact ⟨_,(false),(by first|rfl|(simp;done)|(simp [*];done)),H',⟨by have:=HJ1.out;have:=HK2.out;have:=Wg.out;have:=HK4.out;have:=qcf.out;have:=HK6.out;first|omega|exact Nat.le_refl _⟩,⟨by (with_reducible repeat (first|refine Q5 ?_ _|refine Q6 ?_|refine Q3 ?_ _));exact YK.out⟩,⟨by repeat (first|(with_reducible first|exact HB.out|apply Q2|apply Q1|apply Q4|refine Q7 ?_ Gg.out)|exact HB.out)⟩⟩
                    replace c35:=Bool.eq_false_iff.mpr c35;subst c35
                    have H1:(Qu.j6 k6 (Qb.length:Int) false (Yc (QJ Qd Yp) Zk) Qd (Qd.length:Int) Yp (QJ Qd Yp) ((QJ Qd Yp).length:Int) Zk Qb Qk Qd)=some r:=by rw [if_neg (show ¬ (false=true) by decide)] at H;exact H
                    clear H;have H:=H1;clear H1;have H':=Q0.mk H;clear H
                    go_wp2
                    go_meet
                    case rel=>exact ⟨_,(false),(by first|rfl|(simp;done)|(simp [*];done)),H',⟨by have:=HJ1.out;have:=HK2.out;have:=Wg.out;have:=HK4.out;have:=qcf.out;have:=HK6.out;first|omega|exact Nat.le_refl _⟩,⟨by (with_reducible repeat (first|refine Q5 ?_ _|refine Q6 ?_|refine Q3 ?_ _));exact YK.out⟩,⟨by repeat (first|(with_reducible first|exact HB.out|apply Q2|apply Q1|apply Q4|refine Q7 ?_ Gg.out)|exact HB.out)⟩⟩
                   case rest =>
                    clear qpr;(try clear c1);(try clear p1);(try clear q1);(try clear hx1);(try clear qi1);(try clear c2);(try clear p2);(try clear c3);(try clear c6);(try clear p6);(try clear c7);(try clear c7b0);(try clear c7b1);(try clear c7b2);(try clear c12);(try clear c13);(try clear c14);(try clear c14b0);(try clear c15);(try clear c15b0);(try clear c17);(try clear c18);(try clear c18b0);(try clear c19);(try clear p19);(try clear q19);(try clear qnJ);(try clear qBp);(try clear c26);(try clear c26b0);(try clear c27);(try clear c27b0);(try clear c28);(try clear c28b0);(try clear c30);(try clear c31);(try clear c31b0);(try clear c32);(try clear c32b0);(try clear c33);(try clear c33b0);(try clear c35);(try clear c37);(try clear c38);(try clear c38b0);(try clear c38b1);(try clear c39);(try clear c39b0);(try clear c39b1);(try clear Gl);(try clear Gm);(try clear GY);(try clear XM);(try clear XN);(try clear XO);(try clear WC);(try clear WE);(try clear WF);(try clear XP);(try clear XQ);(try clear XR);(try clear XS);(try clear XT);(try clear XU);(try clear qbF);(try clear qbG);(try clear qbH);(try clear GL);(try clear GM);(try clear Kj);(try clear Kk);(try clear Kl);(try clear Km);(try clear Gn);(try clear Gp);(try clear GZ);(try clear XX);(try clear XY);(try clear XZ);(try clear WG);(try clear WH);(try clear WI);(try clear qaa);(try clear qab);(try clear qac);(try clear qad);(try clear qae);(try clear qaf);(try clear qbQ);(try clear qbR);(try clear qbS);(try clear GN);(try clear GQ);(try clear Kn);(try clear Ko);(try clear Kp);(try clear Kq);(try clear K0);(try clear K1);(try clear K2);(try clear Ka);(try clear Kb);(try clear Ui);(try clear UW);(try clear qas);(try clear UX);(try clear UY);(try clear p1);(try clear p19);(try clear qbn);(try clear qfO);(try clear qg5);(try clear qly);(try clear qlz);(try clear qlA);(try clear p2);(try clear p6);(try clear q1);(try clear q19);(try clear qbo);(try clear qfS);(try clear qhi);(try clear qlB);(try clear qlC);(try clear qlD);obtain ⟨kq,qi2,rfl,HA,qi5,YK,HB⟩:=hcut
                    cases kq with
                    | zero=>exact absurd HA.out (by simp [Qu.j6])
                    | succ qtP =>
                     have H:=HA.out;clear HA;simp only [Qu.j6] at H;have H':=Q0.mk H;clear H
                     go_wp2
                     go_loopg [4,93] qtP (fun kq v4 v93 w' => ∃ (qlW:Bool) (GC:Int),v4 = .bool qlW∧v93 = .int .i64 GC∧Q0 (Qu.l3 kq (Qb.length:Int) qlW Qd (Qd.length:Int) Yp (QJ Qd Yp) ((QJ Qd Yp).length:Int) Zk (Yc (QJ Qd Yp) Zk) ((Yc (QJ Qd Yp) Zk).length:Int) GC Qb Qk Qd=some r)∧Q0 (kq≤qtP)∧Q0 (w'.heap[Jk]? = some (.cells #[(.slice Y5 Qb.length QK),(.slice Y2 Qk.length QM),(.slice (some qdd) Qd.length QN)] 47 (0,0)))∧Q0 (Below w.heap.size w w'))
                     case atStart=>exact ⟨(qi2),(0),(by first|rfl|(simp;done)|(simp [*];done)),(by first|rfl|(simp;done)|(simp [*];done)),H',⟨Nat.le_refl _⟩,⟨by (with_reducible repeat (first|refine Q5 ?_ _|refine Q6 ?_|refine Q3 ?_ _));exact YK.out⟩,⟨by repeat (first|(with_reducible first|exact HB.out|apply Q2|apply Q1|apply Q4|refine Q7 ?_ Gg.out)|exact HB.out)⟩⟩
                     case round =>
                      clear H';(try clear c1);(try clear p1);(try clear q1);(try clear hx1);(try clear qi1);(try clear c2);(try clear p2);(try clear c3);(try clear c6);(try clear p6);(try clear c7);(try clear c7b0);(try clear c7b1);(try clear c7b2);(try clear c12);(try clear c13);(try clear c14);(try clear c14b0);(try clear c15);(try clear c15b0);(try clear c17);(try clear c18);(try clear c18b0);(try clear c19);(try clear p19);(try clear q19);(try clear qnJ);(try clear qBp);(try clear c26);(try clear c26b0);(try clear c27);(try clear c27b0);(try clear c28);(try clear c28b0);(try clear c30);(try clear c31);(try clear c31b0);(try clear c32);(try clear c32b0);(try clear c33);(try clear c33b0);(try clear c35);(try clear c37);(try clear c38);(try clear c38b0);(try clear c38b1);(try clear c39);(try clear c39b0);(try clear c39b1);(try clear Gl);(try clear Gm);(try clear GY);(try clear XM);(try clear XN);(try clear XO);(try clear WC);(try clear WE);(try clear WF);(try clear XP);(try clear XQ);(try clear XR);(try clear XS);(try clear XT);(try clear XU);(try clear qbF);(try clear qbG);(try clear qbH);(try clear GL);(try clear GM);(try clear Kj);(try clear Kk);(try clear Kl);(try clear Km);(try clear Gn);(try clear Gp);(try clear GZ);(try clear XX);(try clear XY);(try clear XZ);(try clear WG);(try clear WH);(try clear WI);(try clear qaa);(try clear qab);(try clear qac);(try clear qad);(try clear qae);(try clear qaf);(try clear qbQ);(try clear qbR);(try clear qbS);(try clear GN);(try clear GQ);(try clear Kn);(try clear Ko);(try clear Kp);(try clear Kq);(try clear K0);(try clear K1);(try clear K2);(try clear Ka);(try clear Kb);(try clear Ui);(try clear UW);(try clear qas);(try clear UX);(try clear UY);(try clear p1);(try clear p19);(try clear qbn);(try clear qfO);(try clear qg5);(try clear qly);(try clear qlz);(try clear qlA);(try clear p2);(try clear p6);(try clear q1);(try clear q19);(try clear qbo);(try clear qfS);(try clear qhi);(try clear qlB);(try clear qlC);(try clear qlD);obtain ⟨qlW,GC,rfl,rfl,HA,HK8,YK,HB⟩:=hrel
                      cases gk with
                      | zero=>exact absurd HA.out (by simp [Qu.l3])
                      | succ k8 =>
                       have H:=HA.out;clear HA;simp only [Qu.l3] at H
                       by_cases c41:GC<((Yc (QJ Qd Yp) Zk).length:Int)
                       ·
                        rw [if_pos c41] at H;have c41b0:decide (GC<((Yc (QJ Qd Yp) Zk).length:Int))=true:=decide_eq_true c41;clear c41
                        by_cases c42:0≤GC
                        ·
                         rw [if_pos c42] at H;have c42b0:decide (0≤GC)=true:=decide_eq_true c42;clear c42
                         by_cases c43:GC<((Yc (QJ Qd Yp) Zk).length:Int)
                         ·
                          rw [if_pos c43] at H;have c43b0:decide (GC<((Yc (QJ Qd Yp) Zk).length:Int))=true:=decide_eq_true c43;clear c43
                          by_cases c44:qlW=true
                          ·
                           subst c44
                           have H1:((Qj.f (rd (Yc (QJ Qd Yp) Zk) GC) 0 100000).bind fun qht=>(Qu.l3 k8 (Qb.length:Int) qht Qd (Qd.length:Int) Yp (QJ Qd Yp) ((QJ Qd Yp).length:Int) Zk (Yc (QJ Qd Yp) Zk) ((Yc (QJ Qd Yp) Zk).length:Int) (wrap64 (GC+1)) Qb Qk Qd))=some r:=by rw [if_pos rfl] at H;exact H
                           clear H;have H:=H1;clear H1;replace H:=Option.bind_eq_some_iff.mp H;obtain ⟨qht,qkk,H⟩:=H;replace H:(Qu.l3 k8 (Qb.length:Int) qht Qd (Qd.length:Int) Yp (QJ Qd Yp) ((QJ Qd Yp).length:Int) Zk (Yc (QJ Qd Yp) Zk) ((Yc (QJ Qd Yp) Zk).length:Int) (wrap64 (GC+1)) Qb Qk Qd)=some r:=H;have A45:=Q0.mk qkk;clear qkk;have H':=Q0.mk H;clear H;have qg6:0≤(GC:Int):=of_decide_eq_true (by first|(with_reducible assumption)|assumption);have qhj:GC<((Yc (QJ Qd Yp) Zk).length:Int):=of_decide_eq_true (by first|(with_reducible assumption)|assumption);obtain ⟨qry,e199,UZ⟩:=Kd.at_int qhX.out GC qg6 qhj;cases e199;replace UZ:=(HB.out.cell (World.block_lt_of_cell? w _ UZ)).trans UZ;replace qg6:=eq_true qg6;replace qhj:=eq_true qhj
                           go_wp2_with (first|(go_at_call 65;(with_reducible refine (Qj.calls (rd (Yc (QJ Qd Yp) Zk) GC) 0 100000 qht _ A45.out).mono ?_);rintro e w' ⟨rfl,⟨nd,rfl⟩⟩))
                           go_roundg k8
                           case measure=>have:=HJ1.out;have:=HK2.out;have:=Wg.out;have:=HK4.out;have:=qcf.out;have:=HK6.out;have:=qi5.out;have:=HK8.out;omega
                           case rel=>exact ⟨(qht),(wrap64 (GC+1)),(by first|rfl|(simp;done)|(simp [*];done)),(by first|rfl|(simp;done)|(simp [*];done)),H',⟨by have:=HJ1.out;have:=HK2.out;have:=Wg.out;have:=HK4.out;have:=qcf.out;have:=HK6.out;have:=qi5.out;have:=HK8.out;omega⟩,⟨by (with_reducible repeat (first|refine Q5 ?_ _|refine Q6 ?_|refine Q3 ?_ _));exact YK.out⟩,⟨by repeat (first|(with_reducible first|exact HB.out|apply Q2|apply Q1|apply Q4|refine Q7 ?_ Gg.out)|exact HB.out)⟩⟩
                          replace c44:=Bool.eq_false_iff.mpr c44;subst c44
                          have H1:(Qu.l3 k8 (Qb.length:Int) false Qd (Qd.length:Int) Yp (QJ Qd Yp) ((QJ Qd Yp).length:Int) Zk (Yc (QJ Qd Yp) Zk) ((Yc (QJ Qd Yp) Zk).length:Int) (wrap64 (GC+1)) Qb Qk Qd)=some r:=by rw [if_neg (show ¬ (false=true) by decide)] at H;exact H
                          clear H;have H:=H1;clear H1;have H':=Q0.mk H;clear H;have qg6:0≤(GC:Int):=of_decide_eq_true (by first|(with_reducible assumption)|assumption);have qhj:GC<((Yc (QJ Qd Yp) Zk).length:Int):=of_decide_eq_true (by first|(with_reducible assumption)|assumption);obtain ⟨qry,e199,UZ⟩:=Kd.at_int qhX.out GC qg6 qhj;cases e199;replace UZ:=(HB.out.cell (World.block_lt_of_cell? w _ UZ)).trans UZ;replace qg6:=eq_true qg6;replace qhj:=eq_true qhj
                          go_wp2
                          go_roundg k8
                          case measure=>have:=HJ1.out;have:=HK2.out;have:=Wg.out;have:=HK4.out;have:=qcf.out;have:=HK6.out;have:=qi5.out;have:=HK8.out;omega
                          case rel=>exact ⟨(false),(wrap64 (GC+1)),(by first|rfl|(simp;done)|(simp [*];done)),(by first|rfl|(simp;done)|(simp [*];done)),H',⟨by have:=HJ1.out;have:=HK2.out;have:=Wg.out;have:=HK4.out;have:=qcf.out;have:=HK6.out;have:=qi5.out;have:=HK8.out;omega⟩,⟨by (with_reducible repeat (first|refine Q5 ?_ _|refine Q6 ?_|refine Q3 ?_ _));exact YK.out⟩,⟨by repeat (first|(with_reducible first|exact HB.out|apply Q2|apply Q1|apply Q4|refine Q7 ?_ Gg.out)|exact HB.out)⟩⟩
                         rw [if_neg c43] at H
                         exact absurd H (by simp)
                        rw [if_neg c42] at H
                        exact absurd H (by simp)
                       rw [if_neg c41] at H;have c41b0:decide (GC<((Yc (QJ Qd Yp) Zk).length:Int))=false:=decide_eq_false c41;clear c41;have H':=Q0.mk H;clear H
                       go_wp2
                       go_roundg k8
                       case measure=>have:=HJ1.out;have:=HK2.out;have:=Wg.out;have:=HK4.out;have:=qcf.out;have:=HK6.out;have:=qi5.out;have:=HK8.out;omega
                       case rel=>exact ⟨(qlW),(wrap64 (Zk+1)),(by first|rfl|(simp;done)|(simp [*];done)),(by first|rfl|(simp;done)|(simp [*];done)),H',⟨by have:=HJ1.out;have:=HK2.out;have:=Wg.out;have:=HK4.out;have:=qcf.out;have:=HK6.out;have:=qi5.out;have:=HK8.out;omega⟩,⟨by (with_reducible repeat (first|refine Q5 ?_ _|refine Q6 ?_|refine Q3 ?_ _));exact YK.out⟩,⟨by repeat (first|(with_reducible first|exact HB.out|apply Q2|apply Q1|apply Q4|refine Q7 ?_ Gg.out)|exact HB.out)⟩⟩
                  rw [if_neg c33] at H
                  exact absurd H (by simp)
                 rw [if_neg c32] at H
                 exact absurd H (by simp)
                rw [if_neg c31] at H;have c31b0:decide (Zk<((QJ Qd Yp).length:Int))=false:=decide_eq_false c31;clear c31;have H':=Q0.mk H;clear H
                go_wp2
                go_roundg k6
                case measure=>have:=HJ1.out;have:=HK2.out;have:=Wg.out;have:=HK4.out;have:=qcf.out;have:=HK6.out;omega
                case rel=>exact ⟨(qlV),(wrap64 (Yp+1)),(by first|rfl|(simp;done)|(simp [*];done)),(by first|rfl|(simp;done)|(simp [*];done)),H',⟨by have:=HJ1.out;have:=HK2.out;have:=Wg.out;have:=HK4.out;have:=qcf.out;have:=HK6.out;omega⟩,⟨by (with_reducible repeat (first|refine Q5 ?_ _|refine Q6 ?_|refine Q3 ?_ _));exact YK.out⟩,⟨by repeat (first|(with_reducible first|exact HB.out|apply Q2|apply Q1|apply Q4|refine Q7 ?_ Gg.out)|exact HB.out)⟩⟩
           rw [if_neg c28] at H
           exact absurd H (by simp)
          rw [if_neg c27] at H
          exact absurd H (by simp)
         rw [if_neg c26] at H;have c26b0:decide (Yp<(Qd.length:Int))=false:=decide_eq_false c26;clear c26
         by_cases c46:qlU=true
         ·
          subst c46
          have H1:(some 0)=some r:=by rw [if_pos rfl] at H;exact H
          clear H;have H:=H1;clear H1;obtain rfl:=Option.some.inj H
          go_wp2
          go_ret
          exact ⟨by first|rfl|(simp [Qv,Qw]<;>rfl)|(simp [*,Qv,Qw]<;>rfl),by repeat (first|(with_reducible first|exact HB.out|apply Q2|apply Q1|apply Q4|refine Q7 ?_ Gg.out)|exact HB.out)⟩
         replace c46:=Bool.eq_false_iff.mpr c46;subst c46
         have H1:(some 93)=some r:=by rw [if_neg (show ¬ (false=true) by decide)] at H;exact H
         clear H;have H:=H1;clear H1;obtain rfl:=Option.some.inj H
         go_wp2
         go_ret
         exact ⟨by first|rfl|(simp [Qv,Qw]<;>rfl)|(simp [*,Qv,Qw]<;>rfl),by repeat (first|(with_reducible first|exact HB.out|apply Q2|apply Q1|apply Q4|refine Q7 ?_ Gg.out)|exact HB.out)⟩
end
section
theorem qkO (b:Nat) (x q:Int) (w:World) (hq:w.cell? ⟨b,0,none⟩=some (.int .i64 q)) :
  Calls Try.prog 103 #[.int .i64 x,.pointer (some ⟨b,0,none⟩)] w fun e w'=>e = .returned (.bool (x != q))∧w=w':=by
 go_enter Try.func103,Try.ntmps103
 go_wp2
 go_ret
 exact ⟨rfl,rfl⟩
set_option maxHeartbeats 4000000 in
set_option maxRecDepth 100000 in
theorem indexFunc_103.calls (A:Option Addr) (c:Nat) (l:List Int) (b:Nat) (q:Int) (w:World) (hr:Kd.C (Kd.int .i64) w A l.length l) (hq:w.cell? ⟨b,0,none⟩=some (.int .i64 q)) :
  Calls Try.prog 113 #[.slice A l.length c,.func (.func 103) #[] #[.pointer (some ⟨b,0,none⟩)]] w fun e w'=>(∃ r:Int,e = .returned (.int .i64 r)∧decide (0≤r)=l.any (fun z=>z != q))∧Yu w w':=by
 have HR:=Q0.mk hr
 have hmx:l.length≤9223372036854775807:=hr.2.1
 clear hr
 go_enter Try.func113,Try.ntmps113
 go_wp2
 go_loopg [8] l.length (fun d v8 w' => ∃ (x:Int) (k:Nat),v8 = .int .i64 x∧Q0 (x=(k:Int))∧Q0 (k+d=l.length)∧Q0 ((l.take k).any (fun z=>z != q)=false)∧Yu w w')
 case atStart=>exact ⟨_,0,rfl,⟨rfl⟩,⟨Nat.zero_add _⟩,⟨by simp⟩,Yu.refl _⟩
 case round =>
  obtain ⟨x,k,rfl,HX,HD,HN,⟨m1,rfl⟩⟩:=hrel
  by_cases hk:x<(l.length:Int)
  ·
   have hx0:0≤x:=by have:=HX.out;omega
   obtain ⟨ad,ea,hA⟩:=Kd.at_int HR.out x hx0 hk
   subst ea
   have hkl:k<l.length:=by have:=HX.out;omega
   have HEL:=Q0.mk (show rd l x=l[k] by rw [HX.out];simp [rd,List.getD_eq_getElem?_getD,List.getElem?_eq_getElem hkl])
   have HTK:=Q0.mk (show (l.take (k+1)).any (fun z=>z != q)=((l.take k).any (fun z=>z != q)||(fun z=>z != q) (rd l x)) by rw [List.take_succ_eq_append_getElem hkl,List.any_append,HEL.out];simp)
   by_cases hp:(fun z=>z != q) (rd l x)=true
   ·
    have HP:=Q0.mk hp;have hb:(rd l x != q)=true:=HP.out;clear hp
    go_wp2_with (go_at_call 103;refine (qkO b (rd l x) q _ ?hc).mono ?_;(case hc=>simpa using hq);rintro e w1 ⟨rfl,rfl⟩)
    go_ret
    refine ⟨⟨_,rfl,?_⟩,⟨_,rfl⟩⟩;rw [decide_eq_true (by simpa using hx0)]
    symm
    rw [List.any_eq_true]
    exact ⟨l[k],List.getElem_mem hkl,HEL.out ▸ HP.out⟩
   ·
    have HP:=Q0.mk (Bool.eq_false_iff.2 hp);have hb:(rd l x != q)=false:=HP.out;clear hp
    cases gk with
    | zero=>exact absurd hk (by have:=HX.out;have:=HD.out;omega)
    | succ d =>
     go_wp2_with (go_at_call 103;refine (qkO b (rd l x) q _ ?hc).mono ?_;(case hc=>simpa using hq);rintro e w1 ⟨rfl,rfl⟩)
     go_roundg d
     case measure=>omega
     case rel=>exact ⟨_,k+1,rfl,⟨by rw [HX.out];rfl⟩,⟨by have:=HD.out;omega⟩,⟨by rw [HTK.out,HN.out,HP.out];rfl⟩,⟨_,rfl⟩⟩
  ·
   go_wp2
   go_ret
   refine ⟨⟨_,rfl,?_⟩,⟨_,rfl⟩⟩
   have hkk:k=l.length:=by have:=HX.out;have:=HD.out;omega
   have:=HN.out
   rw [hkk,List.take_length] at this
   rw [this]
   rfl
set_option maxRecDepth 100000 in
theorem containsFunc_103.calls (A:Option Addr) (c:Nat) (l:List Int) (b:Nat) (q:Int) (w:World) (hr:Kd.C (Kd.int .i64) w A l.length l) (hq:w.cell? ⟨b,0,none⟩=some (.int .i64 q)) :
  Calls Try.prog 102 #[.slice A l.length c,.func (.func 103) #[] #[.pointer (some ⟨b,0,none⟩)]] w fun e w'=>e = .returned (.bool (l.any (fun z=>z != q)))∧Yu w w':=by
 go_enter Try.func102,Try.ntmps102
 go_wp2_with (go_at_call 113;refine (indexFunc_103.calls A c l b q _ ?h1 ?h2).mono ?_;(case h1=>exact hr);(case h2=>exact hq);rintro e w' ⟨⟨r,rfl,hd⟩,⟨n1,rfl⟩⟩;have HD:=Q0.mk hd;clear hd)
 go_ret
 exact ⟨congrArg (fun b_=>Ending.returned (.bool b_)) HD.out,⟨_,rfl⟩⟩
def J3.f (l0:List Int) (a1:Int):Option Bool:=some (l0.any (fun z=>z != a1))
theorem containsG.calls (b:Nat) (A0:Option Addr) (c0 n:Nat) (l0:List Int) (a1:Int) (r:Bool) (w:World) (hn:n=l0.length) (hr0:Kd.C (Kd.int .i64) w A0 l0.length l0) (hc0:l0.length≤c0) (hq:w.cell? ⟨b,0,none⟩=some (.int .i64 a1)) (h:J3.f l0 a1=some r) :
  Calls Try.prog 102 #[.slice A0 n c0,.func (.func 103) #[] #[.pointer (some ⟨b,0,none⟩)]] w fun e w'=>e = .returned (.bool r)∧Yu w w':=by
 unfold J3.f at h
 injection h with h
 subst h hn
 exact containsFunc_103.calls A0 c0 l0 b a1 w hr0 hq
def XF (z:Int):Bool:=!(decide (0≤z)&&decide (z≤100000))
theorem qAa (x:Int) (w:World):Calls Try.prog 110 #[.int .i64 x] w fun e w'=>e = .returned (.bool (XF x))∧w=w':=by
 by_cases h1:0≤x
 ·
  by_cases h2:x≤100000
  ·
   go_enter Try.func110,Try.ntmps110
   go_wp2
   go_ret
   exact ⟨by simp [XF,h1,h2],rfl⟩
  ·
   go_enter Try.func110,Try.ntmps110
   go_wp2
   go_ret
   exact ⟨by simp [XF,h1,h2],rfl⟩
 ·
  go_enter Try.func110,Try.ntmps110
  go_wp2
  go_ret
  exact ⟨by simp [XF,h1],rfl⟩
end
end Go.Proofs.Ytmhomdohhihlcaa.P
