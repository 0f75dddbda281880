/- What the statement StockSpread leans on, part 2 of 5: contracts of the program's functions; conditions: none. -/
import Derived.Laws.EntriesVeiled
import Derived.WalkMore
import Derived.StillTailTactics
import Derived.Lib.SliceRun
import Derived.Deep.RegionLaw
import Derived.Deep.RegionHeld3
import Derived.Deep.RegionWith
import Derived.BigRegion
import Derived.Outline
import Derived.Test.YtmhomdohhihlcaaStockSpreadx0
set_option linter.unusedVariables false
set_option linter.unusedSimpArgs false
set_option linter.constructorNameAsVariable false
set_option linter.unusedSectionVars false
namespace Go.Proofs.Ytmhomdohhihlcaa.P
open Go.RowKit Go.Proofs.YtmhomdohhihlcaaW.PrintWords Go.Proofs.YtmhomdohhihlcaaW.PrintLast Go.Proofs.YtmhomdohhihlcaaW.PrintMore
section
def wi (a b c:Int):Bool:=decide (b≤a∧a≤c)
theorem WQ {a b c:Int}:wi a b c=true↔b≤a∧a≤c:=by simp [wi]
theorem OW (a b c:Int) (w:World):Calls Try.prog 65 #[.int .i64 a,.int .i64 b,.int .i64 c] w fun e w'=>e = .returned (.bool (wi a b c))∧YQ w w':=by
 refine Qt.calls a b c (wi a b c) w ?_
 unfold Qt.f wi
 by_cases h:b≤a
 · rw [if_pos h];simp [h]
 · rw [if_neg h];simp [h]
def QH.okc:List J8→Bool→Bool
 | [],b=>b
 | c::cs,b=>QH.okc cs (b&&wi c.f0 0 10000&&wi c.f1 0 10000)
def QH.rowf (m:Int):List Int→Int→Int→Option Int
 | [],_,acc=>some acc
 | c::cs,last,acc=>if wi c (last+1) (m-1)=true then QH.rowf m cs c (Go.bits .or .i64 acc (shl .i64 1 c)) else none
def QH.rows (m:Int):List (List Int)→Option (List Int)
 | []=>some []
 | l::ls=>(QH.rowf m l (-1) 0).bind fun x=>(QH.rows m ls).map (x :: ·)
def QH.tries (cells:List J8) (sets:List Int):Nat→Nat→BSt→BSt
 | 0,_,st=>st
 | k+1,many,st=>QH.tries cells sets k (many+1) (QH.cz cells sets (many:Int) sets.length [] 0 st)
def QH.g (l0:List J8) (l1:List (List Int)) (a2:Int):List Int × Int × Int × Int :=
 match QH.rows (l0.length:Int) l1 with
 | none=>([],0,0,94)
 | some sets =>
  if QH.okc l0 (decide ((l0.length:Int)≤12)&&decide ((l1.length:Int)≤8))=true then
   if wi a2 0 8=true then
    ((QH.tries l0 sets (min a2.toNat sets.length+1) 0 ⟨[],0,0⟩).ch,(QH.tries l0 sets (min a2.toNat sets.length+1) 0 ⟨[],0,0⟩).sp,(QH.tries l0 sets (min a2.toNat sets.length+1) 0 ⟨[],0,0⟩).lo,0)
   else ([],0,0,7)
  else ([],0,0,94)
def QH.f (l0:List J8) (l1:List (List Int)) (a2:Int):Option (List Int × Int × Int × Int) :=
 if l1.length≤35184372088832 then some (QH.g l0 l1 a2) else none
structure Bx0 (w W:World):Prop where
 c:W.heap[w.heap.size]? = some (.cells #[.slice none 0 0] 37 (0,0))
 s:W.heap[w.heap.size+1]? = some (.cells #[.int .i64 0] 3 (0,0))
 l:W.heap[w.heap.size+1+1]? = some (.cells #[.int .i64 0] 3 (0,0))
 below:Below w.heap.size w W
theorem Bx0.keep {w W W1:World} (h:Bx0 w W) (hb:Below W.heap.size W W1):Bx0 w W1:=⟨Qp h.c hb,Qp h.s hb,Qp h.l hb,h.below.trans (hb.mono h.below.size)⟩
theorem Bx0.start (w:World):Bx0 w (((w.alloc (.cells #[.slice none 0 0] 37)).alloc (.cells #[.int .i64 0] 3)).alloc (.cells #[.int .i64 0] 3)):=by
 refine ⟨Q3 (Q3 (World.alloc_heap_new w _) _) _,Q3 ?_ _,?_,Q2 (Q2 (Q2 (Below.refl _ _) _) _) _⟩
 ·
  have:=World.alloc_heap_new (w.alloc (.cells #[.slice none 0 0] 37)) (.cells #[.int .i64 0] 3)
  rwa [World.size_alloc] at this
 ·
  have:=World.alloc_heap_new ((w.alloc (.cells #[.slice none 0 0] 37)).alloc (.cells #[.int .i64 0] 3)) (.cells #[.int .i64 0] 3)
  rwa [World.size_alloc,World.size_alloc] at this
theorem Bx0.again {w W:World} (h:Bx0 w W):Bx0 w (((W.setCell ⟨w.heap.size,0,none⟩ (.slice none 0 0)).setCell ⟨w.heap.size+1,0,none⟩ (.int .i64 0)).setCell ⟨w.heap.size+1+1,0,none⟩ (.int .i64 0)) :=
  ⟨Qx (Qx (QG h.c 0 _ rfl) (p:=⟨w.heap.size+1,0,none⟩) (by simp) _) (p:=⟨w.heap.size+1+1,0,none⟩) (by simp;omega) _,
   Qx (QG (Qx h.s (p:=⟨w.heap.size,0,none⟩) (by simp) _) 0 _ rfl) (p:=⟨w.heap.size+1+1,0,none⟩) (by simp) _,
   QG (Qx (Qx h.l (p:=⟨w.heap.size,0,none⟩) (by simp;omega) _) (p:=⟨w.heap.size+1,0,none⟩) (by simp) _) 0 _ rfl,
   Q8 (Q8 (Q8 h.below (Nat.le_refl _)) (by omega)) (by omega)⟩
theorem results40 (tmps:Array Value) (W:World) (g1 g2 g3:Nat) (v1:Value) (n2 n3:Int) (h6:tmps.getD 6 undef = .pointer (some ⟨g1,0,none⟩)) (h7:tmps.getD 7 undef = .pointer (some ⟨g2,0,none⟩)) (h8:tmps.getD 8 undef = .pointer (some ⟨g3,0,none⟩))
  (k1:W.heap[g1]? = some (.cells #[v1] 37 (0,0))) (k2:W.heap[g2]? = some (.cells #[.int .i64 n2] 3 (0,0))) (k3:W.heap[g3]? = some (.cells #[.int .i64 n3] 3 (0,0))) :
  (results Try.f40 tmps).run Try.prog W = .ok (.tuple #[v1,.int .i64 n2,.int .i64 n3,tmps.getD 9 undef]) W:=by
 have c1:W.cell? ⟨g1,0,none⟩=some v1:=(Q9 k1 0).trans rfl
 have c2:W.cell? ⟨g2,0,none⟩=some (.int .i64 n2):=(Q9 k2 0).trans rfl
 have c3:W.cell? ⟨g3,0,none⟩=some (.int .i64 n3):=(Q9 k3 0).trans rfl
 have h6':tmps[6]?.getD undef = .pointer (some ⟨g1,0,none⟩):=by simpa using h6
 have h7':tmps[7]?.getD undef = .pointer (some ⟨g2,0,none⟩):=by simpa using h7
 have h8':tmps[8]?.getD undef = .pointer (some ⟨g3,0,none⟩):=by simpa using h8
 simp [results,Try.results40,asAddr,h6',h7',h8',go_sem,c1,c2,c3]
theorem qgx:∀ (l:List J8) (b:Bool),QH.okc l b=true→b=true
 | [],b,h=>h
 | c::cs,b,h=>by
  have:=qgx cs _ h
  cases b with
  | true=>rfl
  | false=>simp at this
structure Bx1 (w:World) (tb n ct:Nat) (At:Option Addr) (sl:List Int) (W:World):Prop where
 x:Bx0 w W
 t:W.heap[tb]? = some (.cells #[.slice At n ct] 137 (0,0))
 r:Kd.R (Kd.int .i64) 139 W w.heap.size (fun _=>True) (.slice At n ct) sl
theorem Bx1.keep {w W W1:World} {tb n ct:Nat} {At:Option Addr} {sl:List Int} (h:Bx1 w tb n ct At sl W) (hb:Below W.heap.size W W1):Bx1 w tb n ct At sl W1:=⟨h.x.keep hb,Qp h.t hb,Kd.R_below h.r hb⟩
theorem Bx1.put {w W:World} {tb n ct tr:Nat} {sl:List Int} (h:Bx1 w tb n ct (some ⟨tr,0,none⟩) sl W) (i:Nat) (x:Int):Bx1 w tb n ct (some ⟨tr,0,none⟩) (sl.set i x) (W.setCell ⟨tr,i,none⟩ (.int .i64 x)):=by
 obtain ⟨cs,hcs⟩:=Kd.R_typed h.r tr rfl
 have hne:∀ {g t:Nat} {c:Array Value},W.heap[g]? = some (.cells c t (0,0))→t≠139→g≠tr:=fun {g t c} hg ht e=>by
  rw [e,hcs] at hg
  injection hg with hg
  injection hg with _ hg
  exact ht hg.symm
 have hbt:w.heap.size≤tr:=Kd.R_base h.r tr rfl
 have h1:=(Kd.R_putg h.r (i:Int) x).1
 rw [Int.toNat_natCast] at h1
 exact ⟨⟨Qx h.x.c (p:=⟨tr,i,none⟩) (hne h.x.c (by decide)) _,Qx h.x.s (p:=⟨tr,i,none⟩) (hne h.x.s (by decide)) _,Qx h.x.l (p:=⟨tr,i,none⟩) (hne h.x.l (by decide)) _,Q8 h.x.below hbt⟩,Qx h.t (p:=⟨tr,i,none⟩) (hne h.t (by decide)) _,h1⟩
theorem qd6 {W:World} {g g' t t':Nat} {c c':Array Value} (h:W.heap[g]? = some (.cells c t (0,0))) (h':W.heap[g']? = some (.cells c' t' (0,0))) (ht:t≠t'):g≠g':=fun e=>by
 rw [e,h'] at h
 injection h with h
 injection h with _ h
 exact ht h.symm
theorem Bx1.ready {w W:World} {tb n ct c:Nat} {At A:Option Addr} {sl:List Int} {l0:List J8} (h:Bx1 w tb n ct At sl W) (hn:sl.length=n) (hC:Kd.C qaY w A l0.length l0) (hc:l0.length≤c) :
  BxI w.heap.size (W.heap.size+1) (w.heap.size+1) (w.heap.size+1+1) w.heap.size tb (W.heap.size+1+1) W.heap.size A c l0 At ct sl
   (((W.alloc (.map #[] 0)).alloc (.cells #[.slice A l0.length c,.map (some W.heap.size)] 142)).alloc (.cells #[.func (.func 90) #[] #[.pointer (some ⟨W.heap.size+1,0,none⟩),.pointer (some ⟨w.heap.size+1,0,none⟩),.pointer (some ⟨w.heap.size+1+1,0,none⟩),.pointer (some ⟨w.heap.size,0,none⟩),.pointer (some ⟨tb,0,none⟩),.pointer (some ⟨W.heap.size+1+1,0,none⟩)]] 143)) ⟨[],0,0⟩:=by
 subst hn
 obtain ⟨Wf,hWf⟩:∃ Wf,(((W.alloc (.map #[] 0)).alloc (.cells #[.slice A l0.length c,.map (some W.heap.size)] 142)).alloc (.cells #[.func (.func 90) #[] #[.pointer (some ⟨W.heap.size+1,0,none⟩),.pointer (some ⟨w.heap.size+1,0,none⟩),.pointer (some ⟨w.heap.size+1+1,0,none⟩),.pointer (some ⟨w.heap.size,0,none⟩),.pointer (some ⟨tb,0,none⟩),.pointer (some ⟨W.heap.size+1+1,0,none⟩)]] 143))=Wf:=⟨_,rfl⟩
 have hb:Below W.heap.size W Wf:=by rw [← hWf];exact Q2 (Q2 (Q2 (Below.refl _ _) _) _) _
 have hm:Wf.heap[W.heap.size]? = some (.map #[] 0):=by rw [← hWf];exact Q3 (Q3 (World.alloc_heap_new W _) _) _
 have hs:Wf.heap[W.heap.size+1]? = some (.cells #[.slice A l0.length c,.map (some W.heap.size)] 142 (0,0)):=by
  rw [← hWf]
  refine Q3 ?_ _
  have:=World.alloc_heap_new (W.alloc (.map #[] 0)) (.cells #[.slice A l0.length c,.map (some W.heap.size)] 142)
  rwa [World.size_alloc] at this
 have hf:Wf.heap[W.heap.size+1+1]? = some (.cells #[.func (.func 90) #[] #[.pointer (some ⟨W.heap.size+1,0,none⟩),.pointer (some ⟨w.heap.size+1,0,none⟩),.pointer (some ⟨w.heap.size+1+1,0,none⟩),.pointer (some ⟨w.heap.size,0,none⟩),.pointer (some ⟨tb,0,none⟩),.pointer (some ⟨W.heap.size+1+1,0,none⟩)]] 143 (0,0)):=by
  rw [← hWf]
  have:=World.alloc_heap_new ((W.alloc (.map #[] 0)).alloc (.cells #[.slice A l0.length c,.map (some W.heap.size)] 142)) (.cells #[.func (.func 90) #[] #[.pointer (some ⟨W.heap.size+1,0,none⟩),.pointer (some ⟨w.heap.size+1,0,none⟩),.pointer (some ⟨w.heap.size+1+1,0,none⟩),.pointer (some ⟨w.heap.size,0,none⟩),.pointer (some ⟨tb,0,none⟩),.pointer (some ⟨W.heap.size+1+1,0,none⟩)]] 143)
  rwa [World.size_alloc,World.size_alloc] at this
 rw [hWf]
 have qGl:=QT h.x.l
 have hltt:=QT h.t
 have hbw:Below w.heap.size w Wf:=h.x.below.trans (hb.mono h.x.below.size)
 have hrow:Kd.R (Kd.int .i64) 139 Wf w.heap.size (fun k => ¬ BxS (w.heap.size+1) (w.heap.size+1+1) w.heap.size W.heap.size k) (.slice At sl.length ct) sl:=by
  refine Kd.R_mono (Kd.R_bound (Kd.R_below h.r hb)) (fun k hk e => ?_)
  obtain ⟨_,_,_,q,hq,cs,hcs⟩:=hk
  have hq9:q=139:=by simpa [Kd.int,Kd.scalar] using hq
  subst hq9
  rcases e with e|e|e|e
  · exact qd6 hcs (Qp h.x.s hb) (by decide) e
  · exact qd6 hcs (Qp h.x.l hb) (by decide) e
  · exact qd6 hcs (Qp h.x.c hb) (by decide) e
  · rw [e,hm] at hcs;cases hcs
 refine ⟨hs,Qp h.x.s hb,Qp h.x.l hb,⟨_,Qp h.x.c hb,Kd.R_nil _ _ _ _ _⟩,Qp h.t hb,hf,hrow,⟨_,_,hm,fun e he=>by simp at he⟩,Kd.C_below hC hbw,hc,⟨by omega,by omega,by omega,by omega⟩,
  ⟨qd6 h.t h.x.s (by decide),qd6 h.t h.x.l (by decide),qd6 h.t h.x.c (by decide),by omega⟩,⟨by omega,by omega,by omega,by omega⟩,⟨by omega,by omega,by omega,by omega,by omega,by omega⟩,⟨by omega,by omega,by omega,by omega⟩,fun W' hb'=>Kd.C_below hC (hbw.trans hb')⟩
theorem qoA:(Try.prog.info? 139).map (fun i=>(i.zero,i.size,i.bytes))=some (some (.agg #[.int .i64 0]),1,8):=by kernel_rfl
set_option maxHeartbeats 8000000 in
set_option maxRecDepth 100000 in
theorem QH.calls (A0:Option Addr) (c0:Nat) (l0:List J8) (A1:Option Addr) (c1:Nat) (l1:List (List Int)) (a2:Int) (r1:List Int) (r2 r3 r4:Int) (w:World) (hr0:Kd.C qaY w A0 l0.length l0) (hc0:l0.length≤c0) (hr1:Kd.C (Kd.slice 3 (Kd.int .i64)) w A1 l1.length l1) (hc1:l1.length≤c1) (h:QH.f l0 l1 a2=some (r1,r2,r3,r4)) :
  Calls Try.prog 40 #[.slice A0 l0.length c0,.slice A1 l1.length c1,.int .i64 a2] w fun e w' => ∃ v0_,e = .returned (.tuple #[v0_,.int .i64 r2,.int .i64 r3,.int .i64 r4])∧Kd.V (Kd.int .i64) 3 w' w.heap.size (fun k_=>w.heap.size≤k_) v0_ r1∧Below w.heap.size w w':=by
 obtain ⟨hsz,hg⟩:l1.length≤35184372088832∧QH.g l0 l1 a2=(r1,r2,r3,r4):=by
  unfold QH.f at h
  by_cases hs:l1.length≤35184372088832
  · rw [if_pos hs] at h;exact ⟨hs,Option.some.inj h⟩
  · rw [if_neg hs] at h;cases h
 clear h
 have qGm:l0.length≤9223372036854775807:=hr0.2.1
 have qCh:l1.length≤9223372036854775807:=hr1.2.1
 have HR0:=Q0.mk hr0
 have HR1:=Q0.mk hr1
 have HG:=Q0.mk hg
 have ql5:=Try.underlying136
 obtain ⟨ok,hok⟩:∃ ok,QH.okc l0 (decide ((l0.length:Int)≤12)&&decide ((l1.length:Int)≤8))=ok:=⟨_,rfl⟩
 have HOK:=Q0.mk hok
 have HX0:=Q0.mk (Bx0.start w)
 obtain ⟨ok1,hok1⟩:∃ b,(decide ((l0.length:Int)≤12)&&decide ((l1.length:Int)≤8))=b:=⟨_,rfl⟩
 rw [hok1] at HOK
 obtain ⟨W0,hW0⟩:∃ W0,((w.alloc (.cells #[.slice none 0 0] 37)).alloc (.cells #[.int .i64 0] 3)).alloc (.cells #[.int .i64 0] 3)=W0:=⟨_,rfl⟩
 rw [hW0] at HX0
 have qk6:=Q0.mk hok1
 clear hr0 hr1 hg hok hok1
 go_enter Try.func40,Try.ntmps40
 go_upto_region 1 with (fail)
 go_cut [10] (fun v10 wc=>v10 = .bool ok1∧wc=W0)
 case first =>
  by_cases h12:(l0.length:Int)≤12
  ·
   have g12:decide ((l0.length:Int)≤12)=true:=decide_eq_true h12
   by_cases h8:(l1.length:Int)≤8
   ·
    have g8:decide ((l1.length:Int)≤8)=true:=decide_eq_true h8
    go_wp2
    go_meet
    case rel=>exact ⟨by rw [← qk6.out,g12,g8];rfl,rfl⟩
   ·
    have g8:decide ((l1.length:Int)≤8)=false:=decide_eq_false h8
    go_wp2
    go_meet
    case rel=>exact ⟨by rw [← qk6.out,g12,g8];rfl,rfl⟩
  ·
   have g12:decide ((l0.length:Int)≤12)=false:=decide_eq_false h12
   go_wp2
   go_meet
   case rel=>exact ⟨by rw [← qk6.out,g12];rfl,rfl⟩
 case rest =>
  obtain ⟨rfl,rfl⟩:=hcut
  go_wp2
  go_loopg [10,32] l0.length (fun d v10 v32 wr => ∃ (b:Bool) (i:Nat),v10 = .bool b∧v32 = .int .i64 (i:Int)∧Q0 (i+d=l0.length)∧Q0 (QH.okc (l0.drop i) b=ok)∧Q0 (Bx0 w wr))
  case atStart=>exact ⟨ok1,0,rfl,rfl,⟨by omega⟩,⟨by simpa using HOK.out⟩,HX0⟩
  case round =>
   obtain ⟨b,i,rfl,rfl,HD,HO,HX⟩:=hrel
   by_cases hi:i<l0.length
   ·
    obtain ⟨d,rfl⟩:∃ d,gk=d+1:=⟨gk-1,by have:=HD.out;omega⟩;obtain ⟨ad,ea,hx0,hx1⟩:=qiO HR0.out (i:Int) (by omega) (by omega);subst ea;replace hx0:=(HX.out.below.cell (World.block_lt_of_cell? w _ hx0)).trans hx0;replace hx1:=(HX.out.below.cell (World.block_lt_of_cell? w _ hx1)).trans hx1;rw [Int.toNat_natCast] at hx0 hx1
    have ho2:QH.okc (l0.drop (i+1)) (b&&wi (GK l0 (i:Int)).f0 0 10000&&wi (GK l0 (i:Int)).f1 0 10000)=ok:=by
     have h5:=HO.out
     have e:GK l0 (i:Int)=l0[i]:=by simp [GK,List.getD_eq_getElem?_getD,List.getElem?_eq_getElem hi]
     rw [List.drop_eq_getElem_cons hi] at h5;rw [e]
     exact h5
    obtain ⟨e0,he0⟩:∃ e0,(GK l0 (i:Int)).f0=e0:=⟨_,rfl⟩;obtain ⟨e1,he1⟩:∃ e1,(GK l0 (i:Int)).f1=e1:=⟨_,rfl⟩;rw [he0] at hx0 ho2;rw [he1] at hx1 ho2;have HO2:=Q0.mk ho2;clear ho2 he0 he1 HO
    cases b with
    | false =>
     go_wp2
     go_roundg d
     case measure=>omega
     case rel=>exact ⟨false,i+1,rfl,by simp,⟨by have:=HD.out;omega⟩,⟨by simpa using HO2.out⟩,⟨HX.out.keep (Q2 (Below.refl _ _) _)⟩⟩
    | true =>
     obtain ⟨b1,hb1⟩:∃ b1,wi e0 0 10000=b1:=⟨_,rfl⟩
     cases b1 with
     | false =>
      have HO3:=HO2.out;rw [hb1] at HO3
      go_wp2_with (go_at_call 65;refine (OW _ _ _ _).mono ?_;rintro e w' ⟨rfl,⟨nd,rfl⟩⟩)
      go_roundg d
      case measure=>omega
      case rel=>exact ⟨false,i+1,rfl,by simp,⟨by have:=HD.out;omega⟩,⟨by simpa using HO3⟩,⟨HX.out.keep (Q1 (Q2 (Below.refl _ _) _) _)⟩⟩
     | true =>
      have HO3:=HO2.out;rw [hb1] at HO3
      go_wp2_with (go_at_call 65;refine (OW _ _ _ _).mono ?_;rintro e w' ⟨rfl,⟨nd,rfl⟩⟩)
      go_roundg d
      case measure=>omega
      case rel=>exact ⟨wi e1 0 10000,i+1,rfl,by simp,⟨by have:=HD.out;omega⟩,⟨by simpa using HO3⟩,⟨HX.out.keep (by repeat (first|exact Below.refl _ _|apply Q1|apply Q2))⟩⟩
   ·
    have hio:b=ok:=by
     have h5:=HO.out;rw [List.drop_eq_nil_of_le (by omega)] at h5
     exact h5
    subst hio;clear HD HO
    go_wp2_with ((with_reducible refine qs7 (.makeSlice 137 (.tmp 49) (.tmp 49)) rfl ?_);refine Kd.R_make (Kd.int .i64) w.heap.size 139 rfl (N:=50) rfl 137 _ _ rfl (l1.length:Int) rfl rfl Try.underlying137 (.agg #[.int .i64 0]) 8 qoA rfl (by decide) (by omega) 0 (ok:=fun _=>True) (okp:=fun _=>True) rfl (fun _ hk=>hk) trivial (by omega) (by simp;omega) HX.out.below HX.out.below.size ?_;intro v1 w1 hv1 hb1 hg1 hn1;obtain ⟨At,ct,ev,hct,hCt⟩:=Kd.R_reads hv1;rw [List.length_replicate,Int.toNat_natCast] at ev;subst ev)
    clear hi
    have hX1:Bx1 w w1.heap.size l1.length ct At (List.replicate l1.length 0) (w1.alloc (.cells #[.slice At l1.length ct] 137)):=by
     rw [Int.toNat_natCast] at hv1
     exact ⟨(HX.out.keep ((Below.refl _ wr).grown hg1 (Nat.le_refl _) (fun k e=>by cases e))).keep (Q2 (Below.refl _ _) _),World.alloc_heap_new _ _,Kd.R_below hv1 (Q2 (Below.refl _ _) _)⟩
    have hnt:w1.heap.size<(w1.alloc (.cells #[.slice At l1.length ct] 137)).heap.size:=by simp
    have HX1:=Q0.mk hX1;obtain ⟨rr,hrr⟩:∃ rr,QH.rows (l0.length:Int) l1=rr:=⟨_,rfl⟩;have HRR:=Q0.mk hrr;obtain ⟨tb,htb⟩:∃ tb,w1.heap.size=tb:=⟨_,rfl⟩;rw [htb] at HX1 ⊢;clear hX1 hrr hv1 hb1 hg1 hn1 hct hCt HX hnt
    go_loopg [53] l1.length (fun d v53 wr => ∃ (i:Nat),v53 = .int .i64 (i:Int)∧Q0 (i+d=l1.length)∧Q0 (∃ done:List Int,done.length=i∧rr=(QH.rows (l0.length:Int) (l1.drop i)).map (done ++ ·)∧Bx1 w tb l1.length ct At (done++List.replicate (l1.length-i) 0) wr))
    case atStart=>exact ⟨0,rfl,⟨by omega⟩,⟨[],rfl,by rw [List.drop_zero,HRR.out];simp,by simpa using HX1.out⟩⟩
    case round =>
     clear HX1 htb;obtain ⟨i,rfl,HD,HE⟩:=hrel;obtain ⟨done,hdl,hdr,hX⟩:=HE.out
     by_cases hi:i<l1.length
     ·
      obtain ⟨d,rfl⟩:∃ d,gk=d+1:=⟨gk-1,by have:=HD.out;omega⟩;obtain ⟨ad,Al,cl,ea,hxl,hcl,hCl⟩:=qiN HR1.out (i:Int) (by omega) (by omega);subst ea;replace hxl:=(hX.x.below.cell (World.block_lt_of_cell? w _ hxl)).trans hxl;rw [Int.toNat_natCast] at hxl;obtain ⟨lst,hlst⟩:∃ lst,Yg l1 (i:Int)=lst:=⟨_,rfl⟩;rw [hlst] at hxl hcl hCl
      have hdrop:l1.drop i=lst::l1.drop (i+1):=by
       rw [List.drop_eq_getElem_cons hi,← hlst]
       congr 1
       simp [Yg,List.getD_eq_getElem?_getD,List.getElem?_eq_getElem hi]
      have qtY:rr=((QH.rowf (l0.length:Int) lst (-1) 0).bind fun x=>(QH.rows (l0.length:Int) (l1.drop (i+1))).map (x :: ·)).map (done ++ ·):=by rw [hdr,hdrop];rfl
      have hrep:List.replicate (l1.length-i) (0:Int)=0::List.replicate (l1.length-(i+1)) 0:=by
       rw [show l1.length-i=(l1.length-(i+1))+1 by omega,List.replicate_succ]
      rw [hrep] at hX;have hmxl:lst.length≤9223372036854775807:=hCl.2.1;have HX:=Q0.mk hX;have HCL:=Q0.mk hCl;have HDL:=Q0.mk hdl;have qr4:=Q0.mk qtY;clear hX hCl hdl qtY hdr hdrop hrep hlst hcl HE;obtain ⟨wo,hwo⟩:∃ wo:World,wo=wr:=⟨_,rfl⟩;subst hwo
      go_wp2
      go_loopg [16,60] lst.length (fun d2 v16 v60 wr => ∃ (last:Int) (j:Nat) (acc:Int),v16 = .int .i64 last∧v60 = .int .i64 (j:Int)∧Q0 (j+d2=lst.length)∧Q0 (-1≤last∧last<(l0.length:Int)∨last = -1)∧Q0 (QH.rowf (l0.length:Int) lst (-1) 0=QH.rowf (l0.length:Int) (lst.drop j) last acc)∧Q0 (Bx1 w tb l1.length ct At (done++acc::List.replicate (l1.length-(i+1)) 0) wr))
      case atStart=>exact ⟨-1,0,0,rfl,rfl,⟨by omega⟩,⟨.inr rfl⟩,⟨by simp⟩,HX⟩
      case round =>
       obtain ⟨last,j,acc,rfl,rfl,HD2,HLA,HRO,HX2⟩:=hrel
       have hla : -1≤last∧last≤9223372036854775806:=by rcases HLA.out with h|h<;>omega
       clear HX
       by_cases hj:j<lst.length
       ·
        obtain ⟨d2,rfl⟩:∃ d2,gk=d2+1:=⟨gk-1,by have:=HD2.out;omega⟩;obtain ⟨adl,eal,hxc⟩:=Kd.at_int (Kd.C_below HCL.out HX2.out.x.below) (j:Int) (by omega) (by omega);subst eal;rw [Int.toNat_natCast] at hxc;obtain ⟨cc,hcc⟩:∃ cc,rd lst (j:Int)=cc:=⟨_,rfl⟩
        have qkf:QH.rowf (l0.length:Int) lst (-1) 0=if wi cc (last+1) ((l0.length:Int)-1)=true then QH.rowf (l0.length:Int) (lst.drop (j+1)) cc (Go.bits .or .i64 acc (shl .i64 1 cc)) else none:=by
         rw [HRO.out,List.drop_eq_getElem_cons hj,← hcc]
         have e:rd lst (j:Int)=lst[j]:=by simp [rd,List.getD_eq_getElem?_getD,List.getElem?_eq_getElem hj]
         rw [e];rfl
        rw [hcc] at hxc;clear hcc HRO
        by_cases hw:wi cc (last+1) ((l0.length:Int)-1)=true
        ·
         rw [if_pos hw] at qkf;have qsg:=Q0.mk qkf;clear qkf;obtain ⟨hw1,hw2⟩:=WQ.1 hw;obtain ⟨tr,cr,er,_,_,_,_⟩:=Kd.R_form HX2.out.r (by simp;omega)
         injection er with e1 e0 e2
         clear e0;subst e1 e2;have hX3:=HX2.out;clear HX2
         have hel:wr.cell? ⟨tr,i,none⟩=some (.int .i64 acc):=by
          obtain ⟨ad2,ea2,hel⟩:=Kd.at_int (Kd.R_reads' hX3.r).2.2 (i:Int) (by omega) (by have:=HDL.out;simp;omega)
          injection ea2 with ea2
          subst ea2;rw [Int.toNat_natCast,K1] at hel;rw [hel];have:=HDL.out
          simp [rd,List.getD_eq_getElem?_getD,this]
         obtain ⟨gcs,hgcs⟩:=Kd.R_typed hX3.r tr rfl;have hef:wr.frozen? ⟨tr,i,none⟩=false:=Qa hgcs i;have htb:wr.cell? ⟨tb,0,none⟩=some (.slice (some ⟨tr,0,none⟩) l1.length ct):=(Q9 hX3.t 0).trans rfl;obtain ⟨sh,hsh⟩:∃ sh,shl .i64 1 cc=sh:=⟨_,rfl⟩;have hr3:=qsg.out;rw [hsh] at hr3;have qA4:=Q0.mk hr3;have hji_:(IntKind.i64.wrap (1*2 ^ min cc.toNat 64))=sh:=hsh;have hjiz:cc≤64→(IntKind.i64.wrap (1*2 ^ cc.toNat))=sh:=qkq hsh
         have hjiu:(IntKind.i64.wrap (2 ^ min cc.toNat 64))=sh:=by have h_:=hji_;rw [Int.one_mul] at h_;exact h_
         have hjiv:cc≤64→(IntKind.i64.wrap (2 ^ cc.toNat))=sh:=fun hle_=>by have h_:=hjiz hle_;rw [Int.one_mul] at h_;exact h_
         obtain ⟨or,hor⟩:∃ o,Go.bits .or .i64 acc sh=o:=⟨_,rfl⟩;have HX3:=Q0.mk hX3;clear hX3 hgcs hsh hr3 qsg
         have qF7:0≤cc:=by omega
         go_wp2_with (go_at_call 65;refine (OW _ _ _ _).mono ?_;rintro e w' ⟨rfl,⟨nd,rfl⟩⟩)
         obtain ⟨w9,hw9⟩:∃ w9,wr.drewN nd=w9:=⟨_,rfl⟩
         have qGd:w9.cell? ⟨tr,i,none⟩=some (.int .i64 acc):=by rw [← hw9];exact hel
         have qGc:w9.frozen? ⟨tr,i,none⟩=false:=by rw [← hw9];exact hef
         have qGM:w9.cell? ⟨tb,0,none⟩=some (.slice (some ⟨tr,0,none⟩) l1.length ct):=by rw [← hw9];exact htb
         have HX9:=Q0.mk (show Bx1 w tb l1.length ct (some ⟨tr,0,none⟩) (done++acc::List.replicate (l1.length-(i+1)) 0) w9 by rw [← hw9];exact HX3.out.keep (Q1 (Below.refl _ _) nd));rw [hw9];clear hw9 hel hef htb HX3
         go_still_tail 10,(by kernel_rfl)
         change wpList _ _ _ _ _ (World.drew _)
         go_wp2
         go_roundg d2
         case measure=>omega
         case rel =>
          have hset:(done++acc::List.replicate (l1.length-(i+1)) 0).set i or=done++or::List.replicate (l1.length-(i+1)) 0:=by
           rw [← HDL.out,List.set_append_right _ _ (Nat.le_refl _),Nat.sub_self,List.set_cons_zero]
          have hput:=HX9.out.put i or;rw [hset] at hput;refine ⟨cc,j+1,or,rfl,by simp,⟨by have:=HD2.out;omega⟩,⟨.inl ⟨by omega,by omega⟩⟩,⟨?_⟩,⟨hput.keep (Yu (Below.refl _ _))⟩⟩;rw [qA4.out,hor]
        ·
         replace hw:=Bool.eq_false_iff.mpr hw;rw [if_neg (by rw [hw];decide)] at qkf
         have hrn:rr=none:=by rw [qr4.out,qkf];rfl
         have hg:=HG.out;unfold QH.g at hg;rw [HRR.out,hrn] at hg;replace hg:(([],0,0,94):List Int × Int × Int × Int)=(r1,r2,r3,r4):=hg
         injection hg with e1 hg
         injection hg with e2 hg
         injection hg with e3 e4
         subst e1 e2 e3 e4;clear qkf hrn;have hcb:wr.cell? ⟨w.heap.size,0,none⟩=some (.slice none 0 0):=(Q9 HX2.out.x.c 0).trans rfl;have hsb:wr.cell? ⟨w.heap.size+1,0,none⟩=some (.int .i64 0):=(Q9 HX2.out.x.s 0).trans rfl;have hlb:wr.cell? ⟨w.heap.size+1+1,0,none⟩=some (.int .i64 0):=(Q9 HX2.out.x.l 0).trans rfl;have hfc:=Qa HX2.out.x.c 0;have hfs:=Qa HX2.out.x.s 0;have hfl:=Qa HX2.out.x.l 0
         go_wp2_with (go_at_call 65;refine (OW _ _ _ _).mono ?_;rintro e w' ⟨rfl,⟨nd,rfl⟩⟩)
         have hXf:=(HX2.out.x.keep (Q1 (Below.refl _ _) nd)).again;refine bodyPost_ret (results40 _ _ _ _ _ (.slice none 0 0) 0 0 rfl rfl rfl hXf.c hXf.s hXf.l) rfl ?_
         exact ⟨_,rfl,Kd.V_nil _ _ _ _ _,hXf.below⟩
       ·
        have hjl:j=lst.length:=by have:=HD2.out;omega
        subst hjl;have hr5:=HRO.out;rw [List.drop_length] at hr5;replace hr5:QH.rowf (l0.length:Int) lst (-1) 0=some acc:=hr5
        have hr6:rr=(QH.rows (l0.length:Int) (l1.drop (i+1))).map ((done++[acc]) ++ ·):=by
         rw [qr4.out,hr5]
         cases QH.rows (l0.length:Int) (l1.drop (i+1)) with
         | none=>rfl
         | some z=>simp
        have HR6:=Q0.mk hr6;clear hr5 hr6 HRO
        go_wp2
        go_roundg d
        case measure=>omega
        case rel =>
         refine ⟨i+1,by simp,⟨by have:=HD.out;omega⟩,⟨done++[acc],by have:=HDL.out;simp;omega,HR6.out,?_⟩⟩;have h7:=HX2.out
         rwa [List.append_cons] at h7
     ·
      have hil:i=l1.length:=by have:=HD.out;omega
      subst hil;rw [List.drop_length] at hdr;replace hdr:rr=some (done++[]):=hdr;rw [List.append_nil] at hdr;rw [Nat.sub_self,List.replicate_zero,List.append_nil] at hX;have hg:=HG.out;unfold QH.g at hg;rw [HRR.out,hdr] at hg
      replace hg:(if QH.okc l0 (decide ((l0.length:Int)≤12)&&decide ((l1.length:Int)≤8))=true then
   if wi a2 0 8=true then
    ((QH.tries l0 done (min a2.toNat done.length+1) 0 ⟨[],0,0⟩).ch,(QH.tries l0 done (min a2.toNat done.length+1) 0 ⟨[],0,0⟩).sp,(QH.tries l0 done (min a2.toNat done.length+1) 0 ⟨[],0,0⟩).lo,0)
   else ([],0,0,7)
  else ([],0,0,94))=(r1,r2,r3,r4):=hg
      rw [qk6.out,HOK.out] at hg;have HX:=Q0.mk hX;have HDL:=Q0.mk hdl;clear hX hdl hdr HE
      cases b with
      | false =>
       rw [if_neg (by decide)] at hg
       injection hg with e1 hg
       injection hg with e2 hg
       injection hg with e3 e4
       subst e1 e2 e3 e4;have hcb:wr.cell? ⟨w.heap.size,0,none⟩=some (.slice none 0 0):=(Q9 HX.out.x.c 0).trans rfl;have hsb:wr.cell? ⟨w.heap.size+1,0,none⟩=some (.int .i64 0):=(Q9 HX.out.x.s 0).trans rfl;have hlb:wr.cell? ⟨w.heap.size+1+1,0,none⟩=some (.int .i64 0):=(Q9 HX.out.x.l 0).trans rfl;have hfc:=Qa HX.out.x.c 0;have hfs:=Qa HX.out.x.s 0;have hfl:=Qa HX.out.x.l 0
       go_wp2
       have hXf:=HX.out.x.again;refine bodyPost_ret (results40 _ _ _ _ _ (.slice none 0 0) 0 0 rfl rfl rfl hXf.c hXf.s hXf.l) rfl ?_
       exact ⟨_,rfl,Kd.V_nil _ _ _ _ _,hXf.below⟩
      | true =>
       rw [if_pos rfl] at hg
       by_cases hw8:wi a2 0 8=true
       ·
        rw [if_pos hw8] at hg
        have hn8:done.length≤8:=by
         have h1:=HOK.out;have h1:=qgx _ _ h1;rw [← qk6.out] at h1;have:=HDL.out
         simp at h1
         omega
        obtain ⟨ha0,ha8⟩:=WQ.1 hw8;obtain ⟨stF,hstF⟩:∃ stF,QH.tries l0 done (min a2.toNat done.length+1) 0 ⟨[],0,0⟩=stF:=⟨_,rfl⟩;rw [hstF] at hg
        injection hg with e1 hg
        injection hg with e2 hg
        injection hg with e3 e4
        subst e1 e2 e3 e4;have HST:=Q0.mk hstF;have htb:wr.cell? ⟨tb,0,none⟩=some (.slice At l1.length ct):=(Q9 HX.out.t 0).trans rfl;have hmm:=@run_makeMap Try.prog;have qp6:=Try.underlying142;have hltt:=QT HX.out.t;have hw8b:wi a2 0 8=true:=hw8;clear hstF hw8
        go_upto_region 25 with ((go_at_call 65;refine (OW _ _ _ _).mono ?_;rintro e w' ⟨rfl,⟨nd,rfl⟩⟩))
        obtain ⟨w9,hw9⟩:∃ w9,wr.drewN nd=w9:=⟨_,rfl⟩;have HX9:=Q0.mk (show Bx1 w tb l1.length ct At done w9 by rw [← hw9];exact HX.out.keep (Q1 (Below.refl _ _) nd));rw [hw9];clear hw9 htb HX;have hR:=HX9.out.ready HDL.out HR0.out hc0;obtain ⟨W3,hW3⟩:∃ W3,(((w9.alloc (.map #[] 0)).alloc (.cells #[.slice A0 l0.length c0,.map (some w9.heap.size)] 142)).alloc (.cells #[.func (.func 90) #[] #[.pointer (some ⟨w9.heap.size+1,0,none⟩),.pointer (some ⟨w.heap.size+1,0,none⟩),.pointer (some ⟨w.heap.size+1+1,0,none⟩),.pointer (some ⟨w.heap.size,0,none⟩),.pointer (some ⟨tb,0,none⟩),.pointer (some ⟨w9.heap.size+1+1,0,none⟩)]] 143))=W3:=⟨_,rfl⟩;have hB3:Below w.heap.size w W3:=HX9.out.x.below.trans (by rw [← hW3];exact (Q2 (Q2 (Q2 (Below.refl _ _) _) _) _).mono HX9.out.x.below.size);rw [hW3] at hR;have HR:=Q0.mk hR;have HB3:=Q0.mk hB3;have qCC:W3.cell? ⟨tb,0,none⟩=some (.slice At done.length ct):=(Q9 hR.tbx 0).trans rfl;have qD9:=QT HX9.out.t;obtain ⟨mm,hmn⟩:∃ mm:Nat,(if (done.length:Int)<a2 then (done.length:Int) else a2)=(mm:Int):=⟨min a2.toNat done.length,by split<;>omega⟩
        have hmin:min a2.toNat done.length=mm:=by split at hmn<;>omega
        have HMM:=Q0.mk hmin
        have hm8:mm≤8:=by omega
        clear hR hB3 hmin
        go_wp2
        have qhx:=HST.out;rw [HMM.out] at qhx;have qA6:=Q0.mk qhx;clear qhx qCC hmn hmm hW3
        go_loopg [99] (mm+1) (fun d v99 wr => ∃ (k:Nat),v99 = .int .i64 (k:Int)∧Q0 (k+d=mm+1)∧Q0 (∃ st',BxI w.heap.size (w9.heap.size+1) (w.heap.size+1) (w.heap.size+1+1) w.heap.size tb (w9.heap.size+1+1) w9.heap.size A0 c0 l0 At ct done wr st'∧QH.tries l0 done d k st'=stF)∧Q0 (Below w.heap.size w wr))
        case atStart=>exact ⟨0,rfl,⟨by omega⟩,⟨_,HR.out,qA6.out⟩,HB3⟩
        case round =>
         obtain ⟨k,rfl,HK4,HS4,HB4⟩:=hrel;obtain ⟨st',hI4,hT4⟩:=HS4.out
         by_cases hk:k<mm+1
         ·
          obtain ⟨d,rfl⟩:∃ d,gk=d+1:=⟨gk-1,by have:=HK4.out;omega⟩
          have hki:(k:Int)<(mm:Int)+1:=by omega
          have hfb:wr.cell? ⟨w9.heap.size+1+1,0,none⟩=some (.func (.func 90) #[] #[.pointer (some ⟨w9.heap.size+1,0,none⟩),.pointer (some ⟨w.heap.size+1,0,none⟩),.pointer (some ⟨w.heap.size+1+1,0,none⟩),.pointer (some ⟨w.heap.size,0,none⟩),.pointer (some ⟨tb,0,none⟩),.pointer (some ⟨w9.heap.size+1+1,0,none⟩)]):=(Q9 hI4.fbx 0).trans rfl;have hNw:w.heap.size≤wr.heap.size:=HB4.out.size;have hcall:=KJ.calls (many:=(k:Int)) hn8 done.length (.slice none 0 0) [] 0 st' wr (.inl ⟨rfl,rfl⟩) (by simp) hI4 hNw (Kd.R_nil _ _ _ _ _) (by decide);have HCALL:=Q0.mk hcall;have HT4:=Q0.mk (show QH.tries l0 done d (k+1) (QH.cz l0 done (k:Int) done.length [] 0 st')=stF from hT4);clear hcall hT4 hI4 HS4
          go_wp2_with ((with_reducible refine Y0 (N:=105) rfl ?_);refine XW (some 105) rfl rfl Try.func90 ?hnm rfl #[.slice none 0 0,.agg #[.int .i64 0],.int .i64 (k:Int),.pointer (some ⟨w9.heap.size+1,0,none⟩),.pointer (some ⟨w.heap.size+1,0,none⟩),.pointer (some ⟨w.heap.size+1+1,0,none⟩),.pointer (some ⟨w.heap.size,0,none⟩),.pointer (some ⟨tb,0,none⟩),.pointer (some ⟨w9.heap.size+1+1,0,none⟩)] 102 #[] #[.pointer (some ⟨w9.heap.size+1,0,none⟩),.pointer (some ⟨w.heap.size+1,0,none⟩),.pointer (some ⟨w.heap.size+1+1,0,none⟩),.pointer (some ⟨w.heap.size,0,none⟩),.pointer (some ⟨tb,0,none⟩),.pointer (some ⟨w9.heap.size+1+1,0,none⟩)] rfl ?hevC ?hagC ?_;(case hnm=>kernel_rfl);(case hevC=>rfl);(case hagC=>simp only [List.map_toArray,List.map_cons,List.map_nil];rfl);refine HCALL.out.mono ?_;rintro e W' ⟨⟨u,rfl⟩,hIe,hKe,hBe⟩;refine ⟨u,rfl,?_⟩)
          go_roundg d
          case measure=>omega
          case rel=>exact ⟨k+1,by simp,⟨by have:=HK4.out;omega⟩,⟨_,hIe,HT4.out⟩,⟨HB4.out.trans hBe⟩⟩
         ·
          have hki:¬ ((k:Int)<(mm:Int)+1):=by omega
          have hd0:gk=0:=by have:=HK4.out;omega
          subst hd0;replace hT4:st'=stF:=hT4;subst hT4;obtain ⟨vc,hcb,hcr⟩:=hI4.chb;have hc6:wr.cell? ⟨w.heap.size,0,none⟩=some vc:=(Q9 hcb 0).trans rfl;have hc7:wr.cell? ⟨w.heap.size+1,0,none⟩=some (.int .i64 st'.sp):=(Q9 hI4.spb 0).trans rfl;have hc8:wr.cell? ⟨w.heap.size+1+1,0,none⟩=some (.int .i64 st'.lo):=(Q9 hI4.lob 0).trans rfl;have hf6:=Qa hcb 0;have hf7:=Qa hI4.spb 0;have hf8:=Qa hI4.lob 0;obtain ⟨Ac,cc,rfl,hcc,hCc⟩:=Kd.R_reads hcr;have HI4:=Q0.mk hI4;have HCR:=Q0.mk hcr;clear hI4 hcr hcb HS4 hCc
          go_wp2
          go_region
          go_wp2
          obtain ⟨g1,g2,g3⟩:=HI4.out.put (s1:=st'.sp) (s2:=st'.lo) HCR.out;obtain ⟨v7,k1,k2⟩:=g1.chb;have hbd:=(g2.1);have hf1:=(QG (Qx (Qx HI4.out.lob (p:=⟨w.heap.size,0,none⟩) HI4.out.n4.2.2.2.1 (.slice Ac st'.ch.length cc)) (p:=⟨w.heap.size+1,0,none⟩) (Ne.symm HI4.out.n4.1) (.int .i64 st'.sp)) 0 (.int .i64 st'.lo) rfl)
          have hk6:(((wr.setCell ⟨w.heap.size,0,none⟩ (.slice Ac st'.ch.length cc)).setCell ⟨w.heap.size+1,0,none⟩ (.int .i64 st'.sp)).setCell ⟨w.heap.size+1+1,0,none⟩ (.int .i64 st'.lo)).heap[w.heap.size]? = some (.cells #[.slice Ac st'.ch.length cc] 37 (0,0)):=by
           obtain ⟨v0,q1,_⟩:=HI4.out.chb
           exact Qx (Qx (QG q1 0 _ rfl) (p:=⟨w.heap.size+1,0,none⟩) (by simp) _) (p:=⟨w.heap.size+1+1,0,none⟩) (by simp;omega) _
          have hRf:Kd.R (Kd.int .i64) 3 (((wr.setCell ⟨w.heap.size,0,none⟩ (.slice Ac st'.ch.length cc)).setCell ⟨w.heap.size+1,0,none⟩ (.int .i64 st'.sp)).setCell ⟨w.heap.size+1+1,0,none⟩ (.int .i64 st'.lo)).drew w.heap.size (fun k_=>w.heap.size≤k_) (.slice Ac st'.ch.length cc) st'.ch :=
           Kd.R_drew (Kd.R_mono (Kd.R_bound (Kd.R_kept HCR.out g2 (fun k hk=>hk))) (fun k hk=>hk.2.1))
          refine bodyPost_ret (results40 _ _ _ _ _ (.slice Ac st'.ch.length cc) st'.sp st'.lo rfl rfl rfl hk6 g1.spb g1.lob) rfl ?_
          exact ⟨_,rfl,Kd.R_V hRf,(HB4.out.trans g3).trans (Yu (Below.refl w.heap.size _))⟩
       ·
        replace hw8:=Bool.eq_false_iff.mpr hw8;rw [if_neg (by rw [hw8];decide)] at hg
        injection hg with e1 hg
        injection hg with e2 hg
        injection hg with e3 e4
        subst e1 e2 e3 e4;have hcb:wr.cell? ⟨w.heap.size,0,none⟩=some (.slice none 0 0):=(Q9 HX.out.x.c 0).trans rfl;have hsb:wr.cell? ⟨w.heap.size+1,0,none⟩=some (.int .i64 0):=(Q9 HX.out.x.s 0).trans rfl;have hlb:wr.cell? ⟨w.heap.size+1+1,0,none⟩=some (.int .i64 0):=(Q9 HX.out.x.l 0).trans rfl;have hfc:=Qa HX.out.x.c 0;have hfs:=Qa HX.out.x.s 0;have hfl:=Qa HX.out.x.l 0
        go_wp2_with (go_at_call 65;refine (OW _ _ _ _).mono ?_;rintro e w' ⟨rfl,⟨nd,rfl⟩⟩)
        have hXf:=(HX.out.x.keep (Q1 (Below.refl _ _) nd)).again;refine bodyPost_ret (results40 _ _ _ _ _ (.slice none 0 0) 0 0 rfl rfl rfl hXf.c hXf.s hXf.l) rfl ?_
        exact ⟨_,rfl,Kd.V_nil _ _ _ _ _,hXf.below⟩
end
end Go.Proofs.Ytmhomdohhihlcaa.P
namespace Go.Proofs.Ytmhomdohhihlcaa.P
open Go.RowKit Go.Shelf Go.Proofs.YtmhomdohhihlcaaW.PrintWords Go.Proofs.YtmhomdohhihlcaaW.PrintLast Go.Proofs.YtmhomdohhihlcaaW.PrintMore
attribute [local go_sem] Oper.semAt_some
set_option maxHeartbeats 4000000 in
set_option maxRecDepth 100000 in
theorem qdC (n:Nat) (R:Nat) (rb B:Nat) (w:World) (hR1:1≤R) (hR3:R≤3) (hB:B≤rb) (hr:w.heap[rb]? = some (.cells #[.int .i64 R] 3 (0,0))) :
  qbf n Try.prog 95 #[.pointer (some ⟨rb,0,none⟩)] B (G2 (R-1) 100 []) w:=by
 intro l J W hW hJ0 hJ hY h0
 have hmix:Try.prog.follows .mixedOrders=true:=by kernel_rfl
 have hrW:W.heap[rb]? = some (.cells #[.int .i64 R] 3 (0,0)):=(hW.block rb (QT hr)).trans hr
 have hrlt:rb<W.heap.size:=QT hrW
 obtain ⟨Wb,hWb⟩:∃ Wb,(W.alloc (.cells #[.func (.yield l) #[] #[]] 147)).alloc (.cells #[.nilFunc] 87)=Wb:=⟨_,rfl⟩
 have hby:Wb.heap[W.heap.size]? = some (.cells #[.func (.yield l) #[] #[]] 147 (0,0)):=by
  rw [← hWb];exact (Below.heap_alloc _ _ _ (by simp)).trans (World.alloc_heap_new W _)
 have hbf:Wb.heap[W.heap.size+1]? = some (.cells #[.nilFunc] 87 (0,0)):=by
  rw [← hWb];have:=World.alloc_heap_new (W.alloc (.cells #[.func (.yield l) #[] #[]] 147)) (.cells #[.nilFunc] 87);rwa [World.size_alloc] at this
 have hbr:Wb.heap[rb]? = some (.cells #[.int .i64 R] 3 (0,0)):=by
  rw [← hWb];exact (Below.heap_alloc _ _ _ (by simp;omega)).trans ((Below.heap_alloc _ _ _ hrlt).trans hrW)
 have hsz:Wb.heap.size=W.heap.size+2:=by rw [← hWb];simp
 have hcf:=(Q9 hbf 0).trans (show _=some Value.nilFunc from rfl)
 have hff:=Qa hbf 0
 obtain ⟨Wf,hWf⟩:∃ Wf,Wb.setCell ⟨W.heap.size+1,0,none⟩ (.func (.func 96) #[] #[.pointer (some ⟨rb,0,none⟩),.pointer (some ⟨W.heap.size,0,none⟩),.pointer (some ⟨W.heap.size+1,0,none⟩)])=Wf:=⟨_,rfl⟩
 have hfy:Wf.heap[W.heap.size]? = some (.cells #[.func (.yield l) #[] #[]] 147 (0,0)):=by
  rw [← hWf];exact Qx hby (p:=⟨W.heap.size+1,0,none⟩) (by simp) _
 have qnO:Wf.heap[W.heap.size+1]? = some (.cells #[.func (.func 96) #[] #[.pointer (some ⟨rb,0,none⟩),.pointer (some ⟨W.heap.size,0,none⟩),.pointer (some ⟨W.heap.size+1,0,none⟩)]] 87 (0,0)):=by
  rw [← hWf];exact QG hbf 0 _ rfl
 have hfr:Wf.heap[rb]? = some (.cells #[.int .i64 R] 3 (0,0)):=by
  rw [← hWf];exact Qx hbr (p:=⟨W.heap.size+1,0,none⟩) (by simp;omega) _
 have hszf:Wf.heap.size=W.heap.size+2:=by rw [← hWf];simpa using hsz
 have hgf:W.grownBy Wf (some (W.heap.size+1)):=by
  rw [← hWf,← hWb]
  exact ⟨rfl,rfl,rfl,by simp;omega,fun k hk _=>by
   refine (Below.heap_setCell _ _ _ k (by simp;omega)).trans ((Below.heap_alloc _ _ _ (by simp;omega)).trans (Below.heap_alloc _ _ _ hk))⟩
 have hJf:J [] Wf:=hJ0 W Wf _ h0 hgf (fun r e=>by cases e;omega)
 have hcell:=(Q9 qnO 0).trans (show _=some _ from rfl)
 have hcall:=qbE (m:=n-1) (qnc n l R rb W.heap.size (W.heap.size+1) B (G2 (R-1) 100 []) J hJ (fun pre v x W1 hj hp hr=>qbM (hY pre v x W1 hj hp hr)) (R-1) 100 [] (.slice none 0 0) [] Wf (by omega) (by omega) (by simp;omega) hR3 (by omega) (Kd.R_nil _ _ _ _ _)
  ⟨hfr,hfy,qnO,hB,by omega,by omega⟩ hJf (List.prefix_refl _))
 have H1:=Q0.mk hfy
 have H2:=Q0.mk qnO
 have H3:=Q0.mk hfr
 clear hfy qnO hfr hbr hby hrW hJf hgf
 refine callsIn_of_wp Try.func95 rfl trivial ?_ rfl
 simp only [Try.ntmps95,List.size_toArray,List.length_cons,List.length_nil,Nat.reduceAdd,Nat.reduceSub,Array.replicate_succ,Array.replicate_zero,List.push_toArray,List.append_toArray,List.nil_append,List.cons_append]
 gi_wp2_with (refine ⟨trivial,fun e=>by simp [Fence.wide] at e,hcall.mono ?_⟩;rintro e W' ⟨rfl,hJ',hk'⟩)
 go_end0
 exact ⟨⟨_,rfl⟩,hJ'⟩
end Go.Proofs.Ytmhomdohhihlcaa.P
namespace Go.Proofs.Ytmhomdohhihlcaa.P
open Go.RowKit Go.Proofs.YtmhomdohhihlcaaW.PrintWords Go.Proofs.YtmhomdohhihlcaaW.PrintLast Go.Proofs.YtmhomdohhihlcaaW.PrintMore
section
attribute [local go_sem] YR YU Z8 Z9 YA YC YT YV
def ZU.f (Jy:Int) (Gm:Int) (a1:Int):Option (Bool):=if 0≤Jy then (if Jy≤Gm then (some (decide (Gm≤a1))) else (some false)) else (some false)
set_option maxHeartbeats 8000000 in
set_option maxRecDepth 100000 in
theorem ZU.calls (Jy:Int) (Gm:Int) (a1:Int) (r:Bool) (w:World) (h:ZU.f Jy Gm a1=some r) :
  Calls Try.prog 66 #[.agg #[.int .i64 Jy,.int .i64 Gm],.int .i64 a1] w fun e w'=>e = .returned (.bool r)∧Below w.heap.size w w':=by
 have Xc:=Try.underlying25
 have HB:=Q0.mk (Below.refl w.heap.size w)
 have H:(if 0≤Jy then (if Jy≤Gm then (some (decide (Gm≤a1))) else (some false)) else (some false))=some r:=h
 clear h
 by_cases c3:0≤Jy
 ·
  rw [if_pos c3] at H
  have c3b0:decide (0≤Jy)=true:=decide_eq_true c3
  clear c3
  by_cases c4:Jy≤Gm
  ·
   rw [if_pos c4] at H
   have c4b0:decide (Jy≤Gm)=true:=decide_eq_true c4
   clear c4
   obtain rfl:=Option.some.inj H
   go_enter Try.func66,Try.ntmps66
   go_wp2_with (first|((with_reducible refine Y0 (N:=2) rfl ?_);refine Yv ?hg (N:=2) ?hd (cs:=#[.int .i64 Jy,.int .i64 Gm]) (t:=25) ?hr ?_;(case hd=>rfl);(case hg=>rfl);(case hr=>first|(go_simp;done)|(go_simp;rfl));intro Ub hg w5 hbox hb;have n0_:=Q0.mk (Qv (by repeat (first|(with_reducible first|exact HB.out|apply Q2|apply Q1|apply Q4)|exact HB.out)) hb);have n1_:=Q0.mk (hbox);have n2_:=Q0.mk ((by rw [hg];exact (Qn (by repeat (first|(with_reducible first|exact HB.out|apply Q2|apply Q1|apply Q4)|exact HB.out))):w.heap.size≤Ub));have n3_:=n2_;clear HB;have HB:=n0_;have U7:=n1_;have qpe:=n2_;have qfI:=n3_;clear n0_ n1_ n2_ n3_ hb hbox hg;have Xs:w5.cell? ⟨Ub,0,none⟩=some (.int .i64 Jy):=(Q9 U7.out 0).trans rfl;have Xt:w5.cell? ⟨Ub,1,none⟩=some (.int .i64 Gm):=(Q9 U7.out 1).trans rfl;have Xu:=Qa U7.out 0;have Xv:=Qa U7.out 1))
   go_ret
   exact ⟨by first|rfl|(simp [QC,QD]<;>rfl)|(simp [*,QC,QD]<;>rfl),by repeat (first|(with_reducible first|exact HB.out|apply Q2|apply Q1|apply Q4|refine Q8 ?_ qfI.out)|exact HB.out)⟩
  rw [if_neg c4] at H
  have c4b0:decide (Jy≤Gm)=false:=decide_eq_false c4
  clear c4
  obtain rfl:=Option.some.inj H
  go_enter Try.func66,Try.ntmps66
  go_wp2_with (first|((with_reducible refine Y0 (N:=2) rfl ?_);refine Yv ?hg (N:=2) ?hd (cs:=#[.int .i64 Jy,.int .i64 Gm]) (t:=25) ?hr ?_;(case hd=>rfl);(case hg=>rfl);(case hr=>first|(go_simp;done)|(go_simp;rfl));intro Ub hg w7 hbox hb;have n0_:=Q0.mk (Qv (by repeat (first|(with_reducible first|exact HB.out|apply Q2|apply Q1|apply Q4)|exact HB.out)) hb);have n1_:=Q0.mk (hbox);have n2_:=Q0.mk ((by rw [hg];exact (Qn (by repeat (first|(with_reducible first|exact HB.out|apply Q2|apply Q1|apply Q4)|exact HB.out))):w.heap.size≤Ub));have n3_:=n2_;clear HB;have HB:=n0_;have U7:=n1_;have qpe:=n2_;have qfI:=n3_;clear n0_ n1_ n2_ n3_ hb hbox hg;have qeA:w7.cell? ⟨Ub,0,none⟩=some (.int .i64 Jy):=(Q9 U7.out 0).trans rfl;have qeB:w7.cell? ⟨Ub,1,none⟩=some (.int .i64 Gm):=(Q9 U7.out 1).trans rfl;have qeO:=Qa U7.out 0;have qeP:=Qa U7.out 1))
  go_ret
  exact ⟨by first|rfl|(simp [QC,QD]<;>rfl)|(simp [*,QC,QD]<;>rfl),by repeat (first|(with_reducible first|exact HB.out|apply Q2|apply Q1|apply Q4|refine Q8 ?_ qfI.out)|exact HB.out)⟩
 rw [if_neg c3] at H
 have c3b0:decide (0≤Jy)=false:=decide_eq_false c3
 clear c3
 obtain rfl:=Option.some.inj H
 go_enter Try.func66,Try.ntmps66
 go_wp2_with (first|((with_reducible refine Y0 (N:=2) rfl ?_);refine Yv ?hg (N:=2) ?hd (cs:=#[.int .i64 Jy,.int .i64 Gm]) (t:=25) ?hr ?_;(case hd=>rfl);(case hg=>rfl);(case hr=>first|(go_simp;done)|(go_simp;rfl));intro Ub hg w9 hbox hb;have n0_:=Q0.mk (Qv (by repeat (first|(with_reducible first|exact HB.out|apply Q2|apply Q1|apply Q4)|exact HB.out)) hb);have n1_:=Q0.mk (hbox);have n2_:=Q0.mk ((by rw [hg];exact (Qn (by repeat (first|(with_reducible first|exact HB.out|apply Q2|apply Q1|apply Q4)|exact HB.out))):w.heap.size≤Ub));have n3_:=n2_;clear HB;have HB:=n0_;have U7:=n1_;have qpe:=n2_;have qfI:=n3_;clear n0_ n1_ n2_ n3_ hb hbox hg;have GA:w9.cell? ⟨Ub,0,none⟩=some (.int .i64 Jy):=(Q9 U7.out 0).trans rfl;have GC:w9.cell? ⟨Ub,1,none⟩=some (.int .i64 Gm):=(Q9 U7.out 1).trans rfl;have GD:=Qa U7.out 0;have GE:=Qa U7.out 1))
 go_ret
 exact ⟨by first|rfl|(simp [QC,QD]<;>rfl)|(simp [*,QC,QD]<;>rfl),by repeat (first|(with_reducible first|exact HB.out|apply Q2|apply Q1|apply Q4|refine Q8 ?_ qfI.out)|exact HB.out)⟩
end
section
attribute [local go_sem] YR YU Z8 Z9 YA YC YT YV
mutual
def QE.j0:Nat→List (S25)→Bool→Option (Bool)
 | 0,_,_=>none
 | k+1,x0,x5=>QE.l0 k x5 x0 (x0.length:Int) 0
def QE.l0:Nat→Bool→List (S25)→Int→Int→Option (Bool)
 | 0,_,_,_,_=>none
 | k+1,x5,x16,x17,x18=>if x18<x17 then (if 0≤x18 then (if x18<(x16.length:Int) then (if x5=true then ((ZU.f ((Qo x16 x18).f0) ((Qo x16 x18).f1) 100).bind fun t131=>(QE.l0 k t131 x16 x17 (wrap64 (x18+1)))) else (QE.l0 k false x16 x17 (wrap64 (x18+1)))) else (none)) else (none)) else (some x5)
end
def QE.f (k:Nat) (l0:List (S25)) (a1:Int):Option (Bool):=(Qt.f a1 1 6).bind fun qku=>(if qku=true then (QE.j0 k l0 ((l0.length:Int)==a1)) else (QE.j0 k l0 false))
theorem QE.mono_l:∀ k,(∀ y0 y1,LeO (QE.j0 k y0 y1) (QE.j0 (k+1) y0 y1))∧(∀ y0 y1 y2 y3,LeO (QE.l0 k y0 y1 y2 y3) (QE.l0 (k+1) y0 y1 y2 y3))
 | 0=>⟨fun _ _ r h=>by simp [QE.j0] at h,fun _ _ _ _ r h=>by simp [QE.l0] at h⟩
 | k+1=>by
  obtain ⟨ih0,ih1⟩:=QE.mono_l k
  refine ⟨?_,?_⟩
  ·
   intro y0 y1
   unfold QE.j0
   repeat' first
   | (with_reducible exact ih0 _ _)
   | (with_reducible exact ih1 _ _ _ _)
   | (with_reducible exact LeO.refl _)
   | (with_reducible exact LeO.none _)
   | (with_reducible refine LeO.ite ?_ ?_)
   | (with_reducible refine LeO.bind ?_ (fun _ => ?_))
   | exact ih0 _ _
   | exact ih1 _ _ _ _
   | exact LeO.none _
   | refine LeO.ite ?_ ?_
   | refine LeO.bind ?_ (fun _ => ?_)
  intro y0 y1 y2 y3
  unfold QE.l0
  repeat' first
  | (with_reducible exact ih0 _ _)
  | (with_reducible exact ih1 _ _ _ _)
  | (with_reducible exact LeO.refl _)
  | (with_reducible exact LeO.none _)
  | (with_reducible refine LeO.ite ?_ ?_)
  | (with_reducible refine LeO.bind ?_ (fun _ => ?_))
  | exact ih0 _ _
  | exact ih1 _ _ _ _
  | exact LeO.none _
  | refine LeO.ite ?_ ?_
  | refine LeO.bind ?_ (fun _ => ?_)
theorem QE.mono:∀ a0 a1 k,LeO (QE.f k a0 a1) (QE.f (k+1) a0 a1):=by
 intro a0 a1 k
 obtain ⟨ih0,ih1⟩:=QE.mono_l k
 unfold QE.f
 repeat' first
   | (with_reducible exact ih0 _ _)
   | (with_reducible exact ih1 _ _ _ _)
   | (with_reducible exact LeO.refl _)
   | (with_reducible exact LeO.none _)
   | (with_reducible refine LeO.ite ?_ ?_)
   | (with_reducible refine LeO.bind ?_ (fun _ => ?_))
   | exact ih0 _ _
   | exact ih1 _ _ _ _
   | exact LeO.none _
   | refine LeO.ite ?_ ?_
   | refine LeO.bind ?_ (fun _ => ?_)
set_option maxHeartbeats 8000000 in
set_option maxRecDepth 100000 in
theorem QE.calls (k:Nat) (A0:Option Addr) (c0:Nat) (l0:List (S25)) (a1:Int) (r:Bool) (w:World) (hr0:Kd.C k25 w A0 l0.length l0) (hc0:l0.length≤c0) (h:QE.f k l0 a1=some r) :
  Calls Try.prog 67 #[.slice A0 l0.length c0,.int .i64 a1] w fun e w'=>e = .returned (.bool r)∧Below w.heap.size w w':=by
 have Xc:=Try.underlying25
 have HR0:=Q0.mk hr0
 have HC0:=Q0.mk hc0
 clear hr0 hc0
 have HB:=Q0.mk (Below.refl w.heap.size w)
 have H:((Qt.f a1 1 6).bind fun qku=>(if qku=true then (QE.j0 k l0 ((l0.length:Int)==a1)) else (QE.j0 k l0 false)))=some r:=h
 clear h
 have HC3:=Q0.mk H
 clear H
 go_enter Try.func67,Try.ntmps67
 go_upto_region 1 with (fail)
 go_cut [5] (fun v5 wc => ∃ (kq:Nat) (Ym:Bool),v5 = .bool Ym∧Q0 (QE.j0 kq l0 Ym=some r)∧Q0 (kq≤k)∧Q0 (Below w.heap.size w wc))
 case first =>
  have H:=HC3.out
  clear HC3
  replace H:=Option.bind_eq_some_iff.mp H
  obtain ⟨qku,A40,H⟩:=H
  replace H:(if qku=true then (QE.j0 k l0 ((l0.length:Int)==a1)) else (QE.j0 k l0 false))=some r:=H
  have A4:=Q0.mk A40
  clear A40
  by_cases c5:qku=true
  ·
   subst c5
   have H1:(QE.j0 k l0 ((l0.length:Int)==a1))=some r:=by rw [if_pos rfl] at H;exact H
   clear H
   have H:=H1
   clear H1
   have H':=Q0.mk H
   clear H
   go_wp2_with (first|((with_reducible refine QF (f:=65) rfl ?_);refine YE (some 9) rfl rfl Try.func65 (by kernel_rfl) rfl #[.int .i64 a1,.int .i64 1,.int .i64 6] rfl (by (try simp only [List.map_toArray,List.map_cons,List.map_nil]);first|done|rfl|(simp only [List.length_drop,List.length_take];rfl)) ?_;(with_reducible refine (Qt.calls a1 1 6 true _ A4.out).mono ?_);rintro e w' ⟨rfl,⟨nd,rfl⟩⟩;refine ⟨_,rfl,?_⟩))
   go_meet
   case rel=>exact ⟨_,(((l0.length:Int)==a1)),(by first|rfl|(simp;done)|(simp [*];done)),H',⟨by first|omega|exact Nat.le_refl _⟩,⟨by repeat (first|(with_reducible first|exact HB.out|apply Q2|apply Q1|apply Q4)|exact HB.out)⟩⟩
  replace c5:=Bool.eq_false_iff.mpr c5
  subst c5
  have H1:(QE.j0 k l0 false)=some r:=by rw [if_neg (show ¬ (false=true) by decide)] at H;exact H
  clear H
  have H:=H1
  clear H1
  have H':=Q0.mk H
  clear H
  go_wp2_with (first|((with_reducible refine QF (f:=65) rfl ?_);refine YE (some 9) rfl rfl Try.func65 (by kernel_rfl) rfl #[.int .i64 a1,.int .i64 1,.int .i64 6] rfl (by (try simp only [List.map_toArray,List.map_cons,List.map_nil]);first|done|rfl|(simp only [List.length_drop,List.length_take];rfl)) ?_;(with_reducible refine (Qt.calls a1 1 6 false _ A4.out).mono ?_);rintro e w' ⟨rfl,⟨nd,rfl⟩⟩;refine ⟨_,rfl,?_⟩))
  go_meet
  case rel=>exact ⟨_,(false),(by first|rfl|(simp;done)|(simp [*];done)),H',⟨by first|omega|exact Nat.le_refl _⟩,⟨by repeat (first|(with_reducible first|exact HB.out|apply Q2|apply Q1|apply Q4)|exact HB.out)⟩⟩
 clear HC3
 try clear p2
 try clear c5
 obtain ⟨kq,Ym,rfl,HA,HJ2,HB⟩:=hcut
 cases kq with
 | zero=>exact absurd HA.out (by simp [QE.j0])
 | succ kj2 =>
  have H:=HA.out
  clear HA
  simp only [QE.j0] at H
  have H':=Q0.mk H
  clear H
  go_wp2
  go_loopg [5,18] kj2 (fun kq v5 v18 w' => ∃ (Ym:Bool) (Je:Int),v5 = .bool Ym∧v18 = .int .i64 Je∧Q0 (QE.l0 kq Ym l0 (l0.length:Int) Je=some r)∧Q0 (kq≤kj2)∧Q0 (Below w.heap.size w w'))
  case atStart=>exact ⟨(Ym),(0),(by first|rfl|(simp;done)|(simp [*];done)),(by first|rfl|(simp;done)|(simp [*];done)),H',⟨Nat.le_refl _⟩,⟨by repeat (first|(with_reducible first|exact HB.out|apply Q2|apply Q1|apply Q4)|exact HB.out)⟩⟩
  clear H'
  try clear p2
  try clear c5
  try clear p2
  obtain ⟨Ym,Je,rfl,rfl,HA,HK2,HB⟩:=hrel
  cases gk with
  | zero=>exact absurd HA.out (by simp [QE.l0])
  | succ k2 =>
   have H:=HA.out
   clear HA
   simp only [QE.l0] at H
   by_cases c6:Je<(l0.length:Int)
   ·
    rw [if_pos c6] at H;have c6b0:decide (Je<(l0.length:Int))=true:=decide_eq_true c6;clear c6
    by_cases c7:0≤Je
    ·
     rw [if_pos c7] at H;have c7b0:decide (0≤Je)=true:=decide_eq_true c7;clear c7
     by_cases c8:Je<(l0.length:Int)
     ·
      rw [if_pos c8] at H;have c8b0:decide (Je<(l0.length:Int))=true:=decide_eq_true c8;clear c8
      by_cases c9:Ym=true
      ·
       subst c9
       have H1:((ZU.f ((Qo l0 Je).f0) ((Qo l0 Je).f1) 100).bind fun t131=>(QE.l0 k2 t131 l0 (l0.length:Int) (wrap64 (Je+1))))=some r:=by rw [if_pos rfl] at H;exact H
       clear H;have H:=H1;clear H1;replace H:=Option.bind_eq_some_iff.mp H;obtain ⟨t131,qkN,H⟩:=H;replace H:(QE.l0 k2 t131 l0 (l0.length:Int) (wrap64 (Je+1)))=some r:=H;have A10:=Q0.mk qkN;clear qkN;have H':=Q0.mk H;clear H;have qhE:0≤(Je:Int):=of_decide_eq_true (by first|(with_reducible assumption)|assumption);have qhT:Je<(l0.length:Int):=of_decide_eq_true (by first|(with_reducible assumption)|assumption);obtain ⟨qsq,e129,Wn,Wo⟩:=ZD HR0.out Je qhE qhT;cases e129;replace Wn:=(HB.out.cell (World.block_lt_of_cell? w _ Wn)).trans Wn;replace Wo:=(HB.out.cell (World.block_lt_of_cell? w _ Wo)).trans Wo;replace qhE:=eq_true qhE;replace qhT:=eq_true qhT
       go_wp2_with (first|((with_reducible refine Y0 (N:=7) rfl ?_);(try (refine G4 (by rfl) ?_;dsimp only));refine Yv ?hg (N:=7) ?hd (cs:=#[.int .i64 0,.int .i64 0]) (t:=25) ?hr ?_;(case hd=>rfl);(case hg=>rfl);(case hr=>first|(go_simp;done)|(go_simp;rfl));intro Xl hg w11 hbox hb;have n0_:=Q0.mk (Qv (by repeat (first|(with_reducible first|exact HB.out|apply Q2|apply Q1|apply Q4)|exact HB.out)) hb);have n1_:=Q0.mk (hbox);have n2_:=Q0.mk ((by rw [hg];exact (Qn (by repeat (first|(with_reducible first|exact HB.out|apply Q2|apply Q1|apply Q4)|exact HB.out))):w.heap.size≤Xl));have n3_:=n2_;clear HB;have HB:=n0_;have Wz:=n1_;have qr2:=n2_;have qiw:=n3_;clear n0_ n1_ n2_ n3_ hb hbox hg;have XX:w11.cell? ⟨Xl,0,none⟩=some (.int .i64 0):=(Q9 Wz.out 0).trans rfl;have XY:w11.cell? ⟨Xl,1,none⟩=some (.int .i64 0):=(Q9 Wz.out 1).trans rfl;have qai:=Qa Wz.out 0;have qaj:=Qa Wz.out 1)|(go_at_call 66;(with_reducible refine (ZU.calls ((Qo l0 Je).f0) ((Qo l0 Je).f1) 100 t131 _ A10.out).mono ?_);rintro e w13 ⟨rfl,hb⟩;have n0_:=Q0.mk (Qp (g:=Xl) (o:=.cells #[.int .i64 ((Qo l0 Je).f0),.int .i64 ((Qo l0 Je).f1)] 25 (0,0)) (by (with_reducible repeat (first|refine Q5 ?_ _|refine Q7 ?_|refine Q3 ?_ _));refine QG (cs:=#[.int .i64 ((Qo l0 Je).f0),.int .i64 0]) ?_ 1 _ rfl;(with_reducible repeat (first|refine Q5 ?_ _|refine Q7 ?_|refine Q3 ?_ _));refine QG (cs:=#[.int .i64 0,.int .i64 0]) ?_ 0 _ rfl;(with_reducible repeat (first|refine Q5 ?_ _|refine Q7 ?_|refine Q3 ?_ _));exact Wz.out) hb);have n1_:=Q0.mk (Qv (by repeat (first|(with_reducible first|exact HB.out|apply Q2|apply Q1|apply Q4|refine Q8 ?_ qiw.out)|exact HB.out)) hb);clear Wz HB;have Wz:=n0_;have HB:=n1_;clear n0_ n1_;(try clear hb);(try clear hb2);(try clear hk);(try clear hi)))
       go_roundg k2
       case measure=>have:=HJ2.out;have:=HK2.out;omega
       case rel=>exact ⟨(t131),(wrap64 (Je+1)),(by first|rfl|(simp;done)|(simp [*];done)),(by first|rfl|(simp;done)|(simp [*];done)),H',⟨by have:=HJ2.out;have:=HK2.out;omega⟩,⟨by repeat (first|(with_reducible first|exact HB.out|apply Q2|apply Q1|apply Q4|refine Q8 ?_ qiw.out)|exact HB.out)⟩⟩
      replace c9:=Bool.eq_false_iff.mpr c9;subst c9
      have H1:(QE.l0 k2 false l0 (l0.length:Int) (wrap64 (Je+1)))=some r:=by rw [if_neg (show ¬ (false=true) by decide)] at H;exact H
      clear H;have H:=H1;clear H1;have H':=Q0.mk H;clear H;have qhE:0≤(Je:Int):=of_decide_eq_true (by first|(with_reducible assumption)|assumption);have qhT:Je<(l0.length:Int):=of_decide_eq_true (by first|(with_reducible assumption)|assumption);obtain ⟨qsq,e129,Wn,Wo⟩:=ZD HR0.out Je qhE qhT;cases e129;replace Wn:=(HB.out.cell (World.block_lt_of_cell? w _ Wn)).trans Wn;replace Wo:=(HB.out.cell (World.block_lt_of_cell? w _ Wo)).trans Wo;replace qhE:=eq_true qhE;replace qhT:=eq_true qhT
      go_wp2_with (first|((with_reducible refine Y0 (N:=7) rfl ?_);(try (refine G4 (by rfl) ?_;dsimp only));refine Yv ?hg (N:=7) ?hd (cs:=#[.int .i64 0,.int .i64 0]) (t:=25) ?hr ?_;(case hd=>rfl);(case hg=>rfl);(case hr=>first|(go_simp;done)|(go_simp;rfl));intro Xl hg w14 hbox hb;have n0_:=Q0.mk (Qv (by repeat (first|(with_reducible first|exact HB.out|apply Q2|apply Q1|apply Q4)|exact HB.out)) hb);have n1_:=Q0.mk (hbox);have n2_:=Q0.mk ((by rw [hg];exact (Qn (by repeat (first|(with_reducible first|exact HB.out|apply Q2|apply Q1|apply Q4)|exact HB.out))):w.heap.size≤Xl));have n3_:=n2_;clear HB;have HB:=n0_;have Wz:=n1_;have qr2:=n2_;have qiw:=n3_;clear n0_ n1_ n2_ n3_ hb hbox hg;have OH:w14.cell? ⟨Xl,0,none⟩=some (.int .i64 0):=(Q9 Wz.out 0).trans rfl;have OI:w14.cell? ⟨Xl,1,none⟩=some (.int .i64 0):=(Q9 Wz.out 1).trans rfl;have OM:=Qa Wz.out 0;have ON:=Qa Wz.out 1))
      go_roundg k2
      case measure=>have:=HJ2.out;have:=HK2.out;omega
      case rel=>exact ⟨(false),(wrap64 (Je+1)),(by first|rfl|(simp;done)|(simp [*];done)),(by first|rfl|(simp;done)|(simp [*];done)),H',⟨by have:=HJ2.out;have:=HK2.out;omega⟩,⟨by repeat (first|(with_reducible first|exact HB.out|apply Q2|apply Q1|apply Q4|refine Q8 ?_ qiw.out)|exact HB.out)⟩⟩
     rw [if_neg c8] at H
     exact absurd H (by simp)
    rw [if_neg c7] at H
    exact absurd H (by simp)
   rw [if_neg c6] at H
   have c6b0:decide (Je<(l0.length:Int))=false:=decide_eq_false c6
   clear c6
   obtain rfl:=Option.some.inj H
   go_wp2
   go_ret
   exact ⟨by first|rfl|(simp [QC,QD]<;>rfl)|(simp [*,QC,QD]<;>rfl),by repeat (first|(with_reducible first|exact HB.out|apply Q2|apply Q1|apply Q4)|exact HB.out)⟩
end
section
attribute [local go_sem] YR YU Z8 Z9 YA YC YT YV
def QX.l0:Nat→Int→List Int→Int→Int→Option (Int)
 | 0,_,_,_,_=>none
 | k+1,x3,x6,x7,x8=>if x8<x7 then (if 0≤x8 then (if x8<(x6.length:Int) then (QX.l0 k (wrap64 (x3+(rd x6 x8))) x6 x7 (wrap64 (x8+1))) else (none)) else (none)) else (some x3)
def QX.f (k:Nat) (l0:List Int):Option (Int):=QX.l0 k 0 l0 (l0.length:Int) 0
theorem QX.mono_l:∀ k,(∀ y0 y1 y2 y3,LeO (QX.l0 k y0 y1 y2 y3) (QX.l0 (k+1) y0 y1 y2 y3))
 | 0=>fun _ _ _ _ r h=>by simp [QX.l0] at h
 | k+1=>by
  have ih0:=QX.mono_l k
  intro y0 y1 y2 y3
  unfold QX.l0
  repeat' first
  | (with_reducible exact ih0 _ _ _ _)
  | (with_reducible exact LeO.refl _)
  | (with_reducible exact LeO.none _)
  | (with_reducible refine LeO.ite ?_ ?_)
  | (with_reducible refine LeO.bind ?_ (fun _ => ?_))
  | exact ih0 _ _ _ _
  | exact LeO.none _
  | refine LeO.ite ?_ ?_
  | refine LeO.bind ?_ (fun _ => ?_)
theorem QX.mono:∀ a0 k,LeO (QX.f k a0) (QX.f (k+1) a0):=by
 intro a0 k
 have ih0:=QX.mono_l k
 unfold QX.f
 repeat' first
   | (with_reducible exact ih0 _ _ _ _)
   | (with_reducible exact LeO.refl _)
   | (with_reducible exact LeO.none _)
   | (with_reducible refine LeO.ite ?_ ?_)
   | (with_reducible refine LeO.bind ?_ (fun _ => ?_))
   | exact ih0 _ _ _ _
   | exact LeO.none _
   | refine LeO.ite ?_ ?_
   | refine LeO.bind ?_ (fun _ => ?_)
set_option maxHeartbeats 8000000 in
set_option maxRecDepth 100000 in
theorem QX.calls (k:Nat) (A0:Option Addr) (c0:Nat) (l0:List Int) (r:Int) (w:World) (hr0:Kd.C (Kd.int .i64) w A0 l0.length l0) (hc0:l0.length≤c0) (h:QX.f k l0=some r) :
  Calls Try.prog 97 #[.slice A0 l0.length c0] w fun e w'=>e = .returned (.int .i64 r)∧YQ w w':=by
 have HR0:=Q0.mk hr0
 have HC0:=Q0.mk hc0
 clear hr0 hc0
 have H:(QX.l0 k 0 l0 (l0.length:Int) 0)=some r:=h
 clear h
 have H':=Q0.mk H
 clear H
 go_enter Try.func97,Try.ntmps97
 go_wp2
 go_loopg [3,8] k (fun kq v3 v8 w' => ∃ (qo9:Int) (UU:Int),v3 = .int .i64 qo9∧v8 = .int .i64 UU∧Q0 (QX.l0 kq qo9 l0 (l0.length:Int) UU=some r)∧Q0 (kq≤k)∧YQ w w')
 case atStart=>exact ⟨(0),(0),(by first|rfl|(simp;done)|(simp [*];done)),(by first|rfl|(simp;done)|(simp [*];done)),H',⟨Nat.le_refl _⟩,by repeat (first|exact YQ.refl _|apply YQ.step)⟩
 clear H'
 obtain ⟨qo9,UU,rfl,rfl,HA,HK1,⟨m1,rfl⟩⟩:=hrel
 cases gk with
 | zero=>exact absurd HA.out (by simp [QX.l0])
 | succ k1 =>
  have H:=HA.out
  clear HA
  simp only [QX.l0] at H
  by_cases c2:UU<(l0.length:Int)
  ·
   rw [if_pos c2] at H
   have c2b0:decide (UU<(l0.length:Int))=true:=decide_eq_true c2
   clear c2
   by_cases c3:0≤UU
   ·
    rw [if_pos c3] at H;have c3b0:decide (0≤UU)=true:=decide_eq_true c3;clear c3
    by_cases c4:UU<(l0.length:Int)
    ·
     rw [if_pos c4] at H;have c4b0:decide (UU<(l0.length:Int))=true:=decide_eq_true c4;clear c4;have H':=Q0.mk H;clear H;have qq1:0≤(UU:Int):=of_decide_eq_true (by first|(with_reducible assumption)|assumption);have qrf:UU<(l0.length:Int):=of_decide_eq_true (by first|(with_reducible assumption)|assumption);obtain ⟨qDn,qBk,qAR⟩:=Kd.at_int HR0.out UU qq1 qrf;cases qBk;replace qq1:=eq_true qq1;replace qrf:=eq_true qrf
     go_wp2
     go_roundg k1
     case measure=>have:=HK1.out;omega
     case rel=>exact ⟨(wrap64 (qo9+(rd l0 UU))),(wrap64 (UU+1)),(by first|rfl|(simp;done)|(simp [*];done)),(by first|rfl|(simp;done)|(simp [*];done)),H',⟨by have:=HK1.out;omega⟩,by repeat (first|exact YQ.refl _|apply YQ.step)⟩
    rw [if_neg c4] at H
    exact absurd H (by simp)
   rw [if_neg c3] at H
   exact absurd H (by simp)
  rw [if_neg c2] at H
  have c2b0:decide (UU<(l0.length:Int))=false:=decide_eq_false c2
  clear c2
  obtain rfl:=Option.some.inj H
  go_wp2
  go_ret
  exact ⟨by first|rfl|(simp;done)|(simp [*];done),by repeat (first|exact YQ.refl _|apply YQ.step)⟩
end
section
def JX.f (a b:Int):Option Int:=some a
def JO.f (a b:Int):Option Int:=some b
theorem JX.calls (a b r:Int) (w:World) (h:JX.f a b=some r) :
  Calls Try.prog 68 #[.agg #[.int .i64 a,.int .i64 b]] w fun e w'=>e = .returned (.int .i64 r)∧Below w.heap.size w w':=by
 unfold JX.f at h
 injection h with h
 subst h
 have Xc:=Try.underlying25
 go_enter Try.func68,Try.ntmps68
 go_wp2
 go_ret
 exact ⟨rfl,(Below.refl _ w).alloc (Nat.le_refl _) _⟩
theorem JO.calls (a b r:Int) (w:World) (h:JO.f a b=some r) :
  Calls Try.prog 69 #[.agg #[.int .i64 a,.int .i64 b]] w fun e w'=>e = .returned (.int .i64 r)∧Below w.heap.size w w':=by
 unfold JO.f at h
 injection h with h
 subst h
 have Xc:=Try.underlying25
 go_enter Try.func69,Try.ntmps69
 go_wp2
 go_ret
 exact ⟨rfl,(Below.refl _ w).alloc (Nat.le_refl _) _⟩
end
section
attribute [local go_sem] YR YU Z8 Z9 YA YC YT YV
def QL.l0:Nat→List (List (S25))→Int→List Int→List Int→Int→Int→Option (Int)
 | 0,_,_,_,_,_,_=>none
 | k+1,x2,x3,x9,x12,x13,x14=>if x14<x13 then (if 0≤x14 then (if x14<(x12.length:Int) then (if x14<(x2.length:Int) then (if 0≤x3 then (if x3<((Yx x2 x14).length:Int) then ((JX.f ((Qo (Yx x2 x14) x3).f0) ((Qo (Yx x2 x14) x3).f1)).bind fun XG=>(if x9.length<17592186044416 then (QL.l0 k x2 x3 (x9++[wrap64 ((rd x12 x14)*XG)]) x12 x13 (wrap64 (x14+1))) else (none))) else (none)) else (none)) else (none)) else (none)) else (none)) else ((QX.f k x9).bind fun t141=>(some t141))
def QL.f (k:Nat) (Jy:Int) (l1:List Int) (l2:List (List (S25))) (a3:Int):Option (Int):=QL.l0 k l2 a3 ([]:List Int) l1 (l1.length:Int) 0
theorem QL.mono_l:∀ k,(∀ y0 y1 y2 y3 y4 y5,LeO (QL.l0 k y0 y1 y2 y3 y4 y5) (QL.l0 (k+1) y0 y1 y2 y3 y4 y5))
 | 0=>fun _ _ _ _ _ _ r h=>by simp [QL.l0] at h
 | k+1=>by
  have ih0:=QL.mono_l k
  intro y0 y1 y2 y3 y4 y5
  unfold QL.l0
  repeat' first
  | (with_reducible exact ih0 _ _ _ _ _ _)
  | (with_reducible exact QX.mono _ _)
  | (with_reducible exact LeO.refl _)
  | (with_reducible exact LeO.none _)
  | (with_reducible refine LeO.ite ?_ ?_)
  | (with_reducible refine LeO.bind ?_ (fun _ => ?_))
  | exact ih0 _ _ _ _ _ _
  | exact QX.mono _ _
  | exact LeO.none _
  | refine LeO.ite ?_ ?_
  | refine LeO.bind ?_ (fun _ => ?_)
theorem QL.mono:∀ a0 a1 a2 a3 k,LeO (QL.f k a0 a1 a2 a3) (QL.f (k+1) a0 a1 a2 a3):=by
 intro a0 a1 a2 a3 k
 have ih0:=QL.mono_l k
 unfold QL.f
 repeat' first
   | (with_reducible exact ih0 _ _ _ _ _ _)
   | (with_reducible exact QX.mono _ _)
   | (with_reducible exact LeO.refl _)
   | (with_reducible exact LeO.none _)
   | (with_reducible refine LeO.ite ?_ ?_)
   | (with_reducible refine LeO.bind ?_ (fun _ => ?_))
   | exact ih0 _ _ _ _ _ _
   | exact QX.mono _ _
   | exact LeO.none _
   | refine LeO.ite ?_ ?_
   | refine LeO.bind ?_ (fun _ => ?_)
def QL.T5:Bool × List (List Nat × List Nat):=(true,[([],[]),([],[]),([],[]),([2],[2]),([],[]),([],[]),([4,5],[4,5]),([6],[6]),([],[]),([7,8],[7,8]),([9],[9]),([3,10],[3,10]),([1,11],[1,11]),([12],[12]),([0,13,11],[0,13]),([14,14,0,1,2,3,4,5,6,7,8,9,10,11,12,13,14],[0,14])])
def QL.B5:List Nat:=[0,0,0,4,0,0,48,112,0,496,1008,2044,4094,8190,16383,32767]
theorem QL.tab5:rtab .any (qbH Try.f71 5)=QL.T5:=by kernel_rfl
theorem QL.bits5:Kv QL.T5.2 QL.B5=true:=by kernel_rfl
set_option maxHeartbeats 8000000 in
set_option maxRecDepth 100000 in
theorem QL.calls (k:Nat) (Jy:Int) (A1:Option Addr) (c1:Nat) (l1:List Int) (A2:Option Addr) (c2:Nat) (l2:List (List (S25))) (a3:Int) (r:Int) (w:World) (hr1:Kd.C (Kd.int .i64) w A1 l1.length l1) (hc1:l1.length≤c1) (hr2:Kd.C (Kd.slice 25 k25) w A2 l2.length l2) (hc2:l2.length≤c2) (h:QL.f k Jy l1 l2 a3=some r) :
  Calls Try.prog 71 #[.agg #[.func (.func 68) #[] #[]],.slice A1 l1.length c1,.slice A2 l2.length c2,.int .i64 a3] w fun e w'=>e = .returned (.int .i64 r)∧Below w.heap.size w w':=by
 have quY:=Try.underlying104
 have Xc:=Try.underlying25
 have HR1:=Q0.mk hr1
 have HC1:=Q0.mk hc1
 clear hr1 hc1
 have HR2:=Q0.mk hr2
 have HC2:=Q0.mk hc2
 clear hr2 hc2
 have HB:=Q0.mk (Below.refl w.heap.size w)
 have H:(QL.l0 k l2 a3 ([]:List Int) l1 (l1.length:Int) 0)=some r:=h
 clear h
 have H':=Q0.mk H
 clear H
 go_enter Try.func71,Try.ntmps71
 go_wp2_with (first|((with_reducible refine Y0 (N:=4) rfl ?_);refine Yv ?hg (N:=4) ?hd (cs:=#[.func (.func 68) #[] #[]]) (t:=104) ?hr ?_;(case hd=>rfl);(case hg=>rfl);(case hr=>first|(go_simp;done)|(go_simp;rfl));intro Wd hg w5 hbox hb;have n0_:=Q0.mk (Qv (by repeat (first|(with_reducible first|exact HB.out|apply Q2|apply Q1|apply Q4)|exact HB.out)) hb);have n1_:=Q0.mk (hbox);have n2_:=Q0.mk ((by rw [hg];exact (Qn (by repeat (first|(with_reducible first|exact HB.out|apply Q2|apply Q1|apply Q4)|exact HB.out))):w.heap.size≤Wd));have n3_:=n2_;clear HB;have HB:=n0_;have Jo:=n1_;have qr3:=n2_;have UY:=n3_;clear n0_ n1_ n2_ n3_ hb hbox hg))
 go_loopg [9,14] k (fun kq v9 v14 w' => ∃ (UV:List Int) (Z5:Int),v14 = .int .i64 Z5∧Q0 (QL.l0 kq l2 a3 UV l1 (l1.length:Int) Z5=some r)∧Q0 (kq≤k)∧Q0 (Kd.R (Kd.int .i64) 3 w' w.heap.size (fun _=>True) v9 UV)∧Q0 (w'.heap[Wd]? = some (.cells #[.func (.func 68) #[] #[]] 104 (0,0)))∧Q0 (Below w.heap.size w w'))
 case atStart=>exact ⟨(([]:List Int)),(0),(by first|rfl|(simp;done)|(simp [*];done)),H',⟨Nat.le_refl _⟩,⟨by first|exact Kd.R_nil _ _ _ _ _|exact Kd.N_nil _ _ _ _ _|exact Kd.V_nil _ _ _ _ _|exact Kd.Q_nil _ _ _ _ _|exact Kd.S_nil _ _ _ _ _⟩,⟨by (with_reducible repeat (first|refine Q5 ?_ _|refine Q7 ?_|refine Q3 ?_ _));exact Jo.out⟩,⟨by repeat (first|(with_reducible first|exact HB.out|apply Q2|apply Q1|apply Q4|refine Q8 ?_ UY.out)|exact HB.out)⟩⟩
 clear H'
 try clear c1
 try clear c2
 try clear p2
 obtain ⟨UV,Z5,rfl,HA,HK1,HO_9,Jo,HB⟩:=hrel
 cases gk with
 | zero=>exact absurd HA.out (by simp [QL.l0])
 | succ k1 =>
  have H:=HA.out
  clear HA
  simp only [QL.l0] at H
  by_cases c6:Z5<(l1.length:Int)
  ·
   rw [if_pos c6] at H
   have c6b0:decide (Z5<(l1.length:Int))=true:=decide_eq_true c6
   clear c6
   by_cases c7:0≤Z5
   ·
    rw [if_pos c7] at H;have c7b0:decide (0≤Z5)=true:=decide_eq_true c7;clear c7
    by_cases c8:Z5<(l1.length:Int)
    ·
     rw [if_pos c8] at H;have c8b0:decide (Z5<(l1.length:Int))=true:=decide_eq_true c8;clear c8
     by_cases c9:Z5<(l2.length:Int)
     ·
      rw [if_pos c9] at H;have c9b0:decide (Z5<(l2.length:Int))=true:=decide_eq_true c9;clear c9
      by_cases c10:0≤a3
      ·
       rw [if_pos c10] at H;have c10b0:decide (0≤a3)=true:=decide_eq_true c10;clear c10
       by_cases c11:a3<((Yx l2 Z5).length:Int)
       ·
        rw [if_pos c11] at H;have c11b0:decide (a3<((Yx l2 Z5).length:Int))=true:=decide_eq_true c11;clear c11;replace H:=Option.bind_eq_some_iff.mp H;obtain ⟨XG,qbe,H⟩:=H;replace H:(if UV.length<17592186044416 then (QL.l0 k1 l2 a3 (UV++[wrap64 ((rd l1 Z5)*XG)]) l1 (l1.length:Int) (wrap64 (Z5+1))) else (none))=some r:=H;have A12:=Q0.mk qbe;clear qbe
        by_cases c13:UV.length<17592186044416
        ·
         rw [if_pos c13] at H;have qk9:=Q0.mk c13;clear c13;obtain ⟨qmN,WK⟩:∃ y_:List Int,y_=(UV++[wrap64 ((rd l1 Z5)*XG)]):=⟨_,rfl⟩
         replace H:(QL.l0 k1 l2 a3 qmN l1 (l1.length:Int) (wrap64 (Z5+1)))=some r:=by first|(rw [WK];with_reducible exact H)|(have H2_:=(Option.bind_some _ _).symm.trans H;rw [WK];with_reducible exact H2_)|(have H2_:=(Option.bind_some _ _).symm.trans H;with_reducible exact H2_)|with_reducible exact H|(rw [WK];exact H)|exact H
         have qlb:=Q0.mk WK;clear WK;have H':=Q0.mk H;clear H;have qhF:0≤(Z5:Int):=of_decide_eq_true (by first|(with_reducible assumption)|assumption);have qhU:Z5<(l1.length:Int):=of_decide_eq_true (by first|(with_reducible assumption)|assumption);obtain ⟨qsr,qqu,Wp⟩:=Kd.at_int HR1.out Z5 qhF qhU;cases qqu;replace Wp:=(HB.out.cell (World.block_lt_of_cell? w _ Wp)).trans Wp;replace qhF:=eq_true qhF;replace qhU:=eq_true qhU
         try go_wp2
         have n0_:=Q0.mk (Kd.R_drew HO_9.out);have n1_:=Q0.mk (Q7 Jo.out);have n2_:=Q0.mk (Q4 HB.out);clear HO_9 Jo HB;have HO_9:=n0_;have Jo:=n1_;have HB:=n2_;clear n0_ n1_ n2_;have qhG:0≤(Z5:Int):=of_decide_eq_true (by first|(with_reducible assumption)|assumption);have qhV:Z5<(l2.length:Int):=of_decide_eq_true (by first|(with_reducible assumption)|assumption);obtain ⟨qlg,qqd,qhh,qqv,KW,qax,qat⟩:=qcX HR2.out Z5 qhG qhV;have Jz:=KW;cases qqv;replace KW:=(HB.out.cell (World.block_lt_of_cell? w _ KW)).trans KW;have XO:=Q0.mk qat;have qmW:=Q0.mk qax;clear qat qax;replace qhG:=eq_true qhG;replace qhV:=eq_true qhV;have qhH:0≤(a3:Int):=of_decide_eq_true (by first|(with_reducible assumption)|assumption);have qhW:a3<((Yx l2 Z5).length:Int):=of_decide_eq_true (by first|(with_reducible assumption)|assumption);obtain ⟨XR,qqw,KX,KY⟩:=ZD XO.out a3 qhH qhW;have JC:=KY;have JA:=KX;cases qqw;replace KX:=(HB.out.cell (World.block_lt_of_cell? w _ KX)).trans KX;replace KY:=(HB.out.cell (World.block_lt_of_cell? w _ KY)).trans KY;replace qhH:=eq_true qhH;replace qhW:=eq_true qhW;refine GU (n:=16) (S:=fun w'=>w'.cell? ⟨Wd,0,none⟩=some (.func (.func 68) #[] #[])∧w'.cell? (qlg.add (Z5).toNat)=some (.slice (some XR) (Yx l2 Z5).length qhh)∧w'.cell? (XR.add ((a3).toNat*2))=some (.int .i64 ((Qo (Yx l2 Z5) a3).f0))∧w'.cell? ⟨(XR.add ((a3).toNat*2)).block,(XR.add ((a3).toNat*2)).off+1,none⟩=some (.int .i64 ((Qo (Yx l2 Z5) a3).f1))) (ds:=[]) (Qg 16 0) (by kernel_rfl) rfl rfl ⟨(Q9 Jo.out 0).trans rfl,((HB.out.cell (World.block_lt_of_cell? w _ Jz)).trans Jz),((HB.out.cell (World.block_lt_of_cell? w _ JA)).trans JA),((HB.out.cell (World.block_lt_of_cell? w _ JC)).trans JC)⟩ (fun hHeld => ?_);refine Jn QL.tab5 QL.bits5 (fun HT_ HW_ => ?_)
         generalize wr.drew=w14 at HO_9 Jo HB XO KW KX KY hHeld ⊢
         refine Qh 0 (some 19) (Qg 16 1) rfl rfl HT_.out (by kernel_rfl) (fun _ _ _ h=>h) ⟨.inl ⟨by rfl,fun w'=>by go_simp;with_reducible rfl⟩,by simp only [Qf,Qb,Qe,Qd,Qc,Qk,Qm];rfl,?_⟩;refine Qh 1 (some 20) (Qg 16 3) rfl rfl HT_.out (by kernel_rfl) (fun _ _ _ h=>h) ⟨.inl ⟨by rfl,fun w'=>by go_simp;with_reducible rfl⟩,by simp only [Qf,Qb,Qe,Qd,Qc,Qk,Qm];rfl,?_⟩;refine Qh 2 (some 21) (Qg 16 7) rfl rfl HT_.out (by kernel_rfl) (fun _ _ _ h=>h) ⟨.inl ⟨by rfl,fun w'=>by go_simp;with_reducible rfl⟩,by simp only [Qf,Qb,Qe,Qd,Qc,Qk,Qm];rfl,?_⟩;refine Qh 4 (some 23) (Qg 16 23) rfl rfl HT_.out (by kernel_rfl) (fun _ _ _ h=>h) ⟨.inl ⟨by rfl,fun w'=>by go_simp;with_reducible rfl⟩,by simp only [Qf,Qb,Qe,Qd,Qc,Qk,Qm];rfl,?_⟩;refine Qh 5 (some 24) (Qg 16 55) rfl rfl HT_.out (by kernel_rfl) (fun _ _ _ h=>h) ⟨.inl ⟨by rfl,fun w'=>by go_simp;with_reducible rfl⟩,by simp only [Qf,Qb,Qe,Qd,Qc,Qk,Qm];rfl,?_⟩;refine Qh 6 (some 25) (Qg 16 119) rfl rfl HT_.out (by kernel_rfl) (fun _ _ _ h=>h) ⟨.inl ⟨by rfl,fun w'=>by go_simp;with_reducible rfl⟩,by simp only [Qf,Qb,Qe,Qd,Qc,Qk,Qm];rfl,?_⟩;refine Qh 8 (some 27) (Qg 16 375) rfl rfl HT_.out (by kernel_rfl) (fun _ _ _ h=>h) ⟨.inl ⟨by rfl,fun w'=>by go_simp;with_reducible rfl⟩,by simp only [Qf,Qb,Qe,Qd,Qc,Qk,Qm];rfl,?_⟩;refine Yn 3 (some 22) (Qg 16 383) rfl rfl (Yo HT_.out HW_.out (by kernel_rfl)) (fun _ _ _ h=>h) hHeld ⟨.inl ⟨by rfl,by rintro w' ⟨s0,s1,s2,s3⟩;go_simp;with_reducible rfl⟩,by simp only [Qf,Qb,Qe,Qd,Qc,Qk,Qm];rfl,?_⟩;refine Yn 7 (some 26) (Qg 16 511) rfl rfl (Yo HT_.out HW_.out (by kernel_rfl)) (fun _ _ _ h=>h) hHeld ⟨.inl ⟨by rfl,by rintro w' ⟨s0,s1,s2,s3⟩;go_simp;with_reducible rfl⟩,by simp only [Qf,Qb,Qe,Qd,Qc,Qk,Qm];rfl,?_⟩;refine Qh 9 (some 28) (Qg 16 1023) rfl rfl HT_.out (by kernel_rfl) (fun _ _ _ h=>h) ⟨.inl ⟨by rfl,fun w'=>by go_simp;with_reducible rfl⟩,by simp only [Qf,Qb,Qe,Qd,Qc,Qk,Qm];rfl,?_⟩;refine Yn 10 (some 29) (Qg 16 2047) rfl rfl (Yo HT_.out HW_.out (by kernel_rfl)) (fun _ _ _ h=>h) hHeld ⟨.inl ⟨by rfl,by rintro w' ⟨s0,s1,s2,s3⟩;go_simp;with_reducible rfl⟩,by simp only [Qf,Qb,Qe,Qd,Qc,Qk,Qm];rfl,?_⟩;refine one_ (i:=11) (N:=some 30) (Qg 16 4095) rfl rfl (Gf HT_.out (by kernel_rfl)) (by decide) (fun K hK => ?_);refine qep Try.func68 (by kernel_rfl) rfl #[.agg #[.int .i64 ((Qo (Yx l2 Z5) a3).f0),.int .i64 ((Qo (Yx l2 Z5) a3).f1)]] 22 (by rfl) rfl rfl rfl (by (try simp only [List.map_toArray,List.map_cons,List.map_nil]);first|done|rfl|(simp only [List.length_drop,List.length_take];rfl)) ?_
         with_reducible refine (JX.calls ((Qo (Yx l2 Z5) a3).f0) ((Qo (Yx l2 Z5) a3).f1) XG _ A12.out).mono ?_
         rintro e w15 ⟨rfl,hb⟩;refine ⟨_,rfl,?_⟩;have n0_:=Q0.mk (Kd.R_below (by (with_reducible repeat (first|apply Kd.R_alloc|apply Kd.R_drewN|apply Kd.R_drew));exact HO_9.out) hb);have n1_:=Q0.mk (Qp (g:=Wd) (o:=.cells #[.func (.func 68) #[] #[]] 104 (0,0)) (by (with_reducible repeat (first|refine Q5 ?_ _|refine Q7 ?_|refine Q3 ?_ _));exact Jo.out) hb);have n2_:=Q0.mk (Qv (by repeat (first|(with_reducible first|exact HB.out|apply Q2|apply Q1|apply Q4|refine Q8 ?_ UY.out)|exact HB.out)) hb);clear HO_9 Jo HB;have HO_9:=n0_;have Jo:=n1_;have HB:=n2_;clear n0_ n1_ n2_
         (try clear hb)
         (try clear hb2)
         (try clear hk)
         (try clear hi)
         refine hK.out _ _ ⟨(Q9 Jo.out 0).trans rfl,((HB.out.cell (World.block_lt_of_cell? w _ Jz)).trans Jz),((HB.out.cell (World.block_lt_of_cell? w _ JA)).trans JA),((HB.out.cell (World.block_lt_of_cell? w _ JC)).trans JC)⟩ (fun hHeld => ?_);clear hK K;refine G9 (a':=?_) ?_ ?_;rotate_left
         ·
          show Act.put _ (some 30) _=_
          simp only [Qf,Qb,Qe,Qd,Qc,Qk,Qm];rfl
         refine Qh 12 (some 31) (Qg 16 8191) rfl rfl HT_.out (by kernel_rfl) (fun _ _ _ h=>h) ⟨.inl ⟨by rfl,fun w'=>by go_simp;with_reducible rfl⟩,by simp only [Qf,Qb,Qe,Qd,Qc,Qk,Qm];rfl,?_⟩;refine one_ (i:=13) (N:=some 32) (Qg 16 16383) rfl rfl (Gf HT_.out (by kernel_rfl)) (by decide) (fun K hK => ?_);refine qii (w1:=?_) (v:=?_) (by rfl) rfl ?_ ?_
         rotate_left 2
         ·
          go_simp
          constructor
          · rfl
          rfl
         refine hK.out _ _ ⟨(Q9 (Q3 Jo.out _) 0).trans rfl,(World.cell?_alloc_lt _ _ _ (World.block_lt_of_cell? _ _ (((HB.out.cell (World.block_lt_of_cell? w _ Jz)).trans Jz)))).trans (((HB.out.cell (World.block_lt_of_cell? w _ Jz)).trans Jz)),(World.cell?_alloc_lt _ _ _ (World.block_lt_of_cell? _ _ (((HB.out.cell (World.block_lt_of_cell? w _ JA)).trans JA)))).trans (((HB.out.cell (World.block_lt_of_cell? w _ JA)).trans JA)),(World.cell?_alloc_lt _ _ _ (World.block_lt_of_cell? _ _ (((HB.out.cell (World.block_lt_of_cell? w _ JC)).trans JC)))).trans (((HB.out.cell (World.block_lt_of_cell? w _ JC)).trans JC))⟩ (fun hHeld => ?_);clear hK K;refine G9 (a':=?_) ?_ ?_;rotate_left
         ·
          show Act.put _ (some 32) _=_
          simp only [Qf,Qb,Qe,Qd,Qc,Qk,Qm];rfl
         refine one_ (i:=14) (N:=some 33) (Qg 16 32767) rfl rfl (Gf HT_.out (by kernel_rfl)) (by decide) (fun K hK => ?_);refine Kd.R_append_step (Kd.int .i64) (w0:=w) w.heap.size (by rfl) (.tmp 19) (.tmp 32) 37 3 (.int .i64 0) 8 rfl Try.underlying37 Xm rfl (by decide) (by omega) u9 UV (wrap64 ((rd l1 Z5)*XG)) [.int .i64 (wrap64 ((rd l1 Z5)*XG))] (fun _=>True) (fun _=>False) rfl rfl ?aP (fun _ hk=>hk.elim) ?aF ?aO ?aB ?aS ?aL ?_
         (case aP=>exact rfl)
         (case aB=>exact (by repeat (first|(with_reducible first|exact HB.out|apply Q2|apply Q1|apply Q4|refine Q8 ?_ UY.out)|exact HB.out)))
         (case aF=>exact (fun _ _=>trivial))
         (case aO=>exact (by (with_reducible repeat (first|apply Kd.R_alloc|apply Kd.R_drewN|apply Kd.R_drew));exact HO_9.out))
         (case aS=>exact (Qn (by repeat (first|(with_reducible first|exact HB.out|apply Q2|apply Q1|apply Q4|refine Q8 ?_ UY.out)|exact HB.out))))
         (case aL=>have:=qk9.out;omega)
         intro v139 w16 ho hb hg hat;rw [← qlb.out] at ho;have n0_:=Q0.mk (JZ (g:=Wd) (o:=.cells #[.func (.func 68) #[] #[]] 104 (0,0)) (by (with_reducible repeat (first|refine Q5 ?_ _|refine Q7 ?_|refine Q3 ?_ _));exact Jo.out) hg (Kd.R_ne HO_9.out Jo.out (by decide)));have n1_:=Q0.mk (hb);have n2_:=Q0.mk (ho);clear Jo HB HO_9;have Jo:=n0_;have HB:=n1_;have qk4:=n2_;clear n0_ n1_ n2_ ho hb hg hat;refine hK.out _ _ ⟨(Q9 Jo.out 0).trans rfl,((HB.out.cell (World.block_lt_of_cell? w _ Jz)).trans Jz),((HB.out.cell (World.block_lt_of_cell? w _ JA)).trans JA),((HB.out.cell (World.block_lt_of_cell? w _ JC)).trans JC)⟩ (fun hHeld => ?_);clear hK K;refine G9 (a':=?_) ?_ ?_;rotate_left
         ·
          show Act.put _ (some 33) _=_
          simp only [Qf,Qb,Qe,Qd,Qc,Qk,Qm];rfl
         refine Qh 15 (some 9) (Qg 16 65535) rfl rfl HT_.out (by kernel_rfl) (fun _ _ _ h=>h) ⟨.inl ⟨by rfl,fun w'=>by go_simp;with_reducible rfl⟩,by simp only [Qf,Qb,Qe,Qd,Qc,Qk,Qm];rfl,?_⟩;refine Oz (Ga HT_.out (by kernel_rfl)) ?_
         try go_wp2
         go_roundg k1
         case measure=>have:=HK1.out;omega
         case rel=>exact ⟨(qmN),(wrap64 (Z5+1)),(by first|rfl|(simp;done)|(simp [*];done)),H',⟨by have:=HK1.out;omega⟩,⟨by (with_reducible repeat (first|apply Kd.R_alloc|apply Kd.R_drewN|apply Kd.R_drew));exact qk4.out⟩,⟨by (with_reducible repeat (first|refine Q5 ?_ _|refine Q7 ?_|refine Q3 ?_ _));exact Jo.out⟩,⟨by repeat (first|(with_reducible first|exact HB.out|apply Q2|apply Q1|apply Q4|refine Q8 ?_ UY.out)|exact HB.out)⟩⟩
        rw [if_neg c13] at H
        exact absurd H (by simp)
       rw [if_neg c11] at H
       exact absurd H (by simp)
      rw [if_neg c10] at H
      exact absurd H (by simp)
     rw [if_neg c9] at H
     exact absurd H (by simp)
    rw [if_neg c8] at H
    exact absurd H (by simp)
   rw [if_neg c7] at H
   exact absurd H (by simp)
  rw [if_neg c6] at H
  have c6b0:decide (Z5<(l1.length:Int))=false:=decide_eq_false c6
  clear c6
  replace H:=Option.bind_eq_some_iff.mp H
  obtain ⟨t141,qkP,H⟩:=H
  replace H:(some t141)=some r:=H
  have A17:=Q0.mk qkP
  clear qkP
  obtain rfl:=Option.some.inj H
  obtain ⟨qqe,qqs,qqG⟩:=Kd.R_slice HO_9.out
  subst qqG
  go_wp2_with (first|((with_reducible refine QF (f:=97) rfl ?_);refine YE (some 36) rfl rfl Try.func97 (by kernel_rfl) rfl #[.slice qqe UV.length qqs] rfl (by (try simp only [List.map_toArray,List.map_cons,List.map_nil]);first|done|rfl|(simp only [List.length_drop,List.length_take];rfl)) ?_;(with_reducible refine (QX.calls k1 _ _ UV t141 _ ?side1 ?side2 A17.out).mono ?_);(case side1=>repeat (first|exact (Kd.R_reads' HO_9.out).2.2|(with_reducible refine Kd.C_alloc ?_ _)|(with_reducible refine Kd.C_drewN ?_ _)|(with_reducible refine Kd.C_drew ?_)));(case side2=>exact (Kd.R_reads' HO_9.out).2.1);rintro e w' ⟨rfl,⟨nd,rfl⟩⟩;refine ⟨_,rfl,?_⟩))
  go_ret
  exact ⟨by first|rfl|(simp [QC,QD]<;>rfl)|(simp [*,QC,QD]<;>rfl),by repeat (first|(with_reducible first|exact HB.out|apply Q2|apply Q1|apply Q4|refine Q8 ?_ UY.out)|exact HB.out)⟩
end
section
attribute [local go_sem] YR YU Z8 Z9 YA YC YT YV
def QI.l0:Nat→List (List (S25))→Int→List Int→List Int→Int→Int→Option (Int)
 | 0,_,_,_,_,_,_=>none
 | k+1,x2,x3,x9,x12,x13,x14=>if x14<x13 then (if 0≤x14 then (if x14<(x12.length:Int) then (if x14<(x2.length:Int) then (if 0≤x3 then (if x3<((Yx x2 x14).length:Int) then ((JO.f ((Qo (Yx x2 x14) x3).f0) ((Qo (Yx x2 x14) x3).f1)).bind fun XG=>(if x9.length<17592186044416 then (QI.l0 k x2 x3 (x9++[wrap64 ((rd x12 x14)*XG)]) x12 x13 (wrap64 (x14+1))) else (none))) else (none)) else (none)) else (none)) else (none)) else (none)) else ((QX.f k x9).bind fun t141=>(some t141))
def QI.f (k:Nat) (Jy:Int) (l1:List Int) (l2:List (List (S25))) (a3:Int):Option (Int):=QI.l0 k l2 a3 ([]:List Int) l1 (l1.length:Int) 0
theorem QI.mono_l:∀ k,(∀ y0 y1 y2 y3 y4 y5,LeO (QI.l0 k y0 y1 y2 y3 y4 y5) (QI.l0 (k+1) y0 y1 y2 y3 y4 y5))
 | 0=>fun _ _ _ _ _ _ r h=>by simp [QI.l0] at h
 | k+1=>by
  have ih0:=QI.mono_l k
  intro y0 y1 y2 y3 y4 y5
  unfold QI.l0
  repeat' first
  | (with_reducible exact ih0 _ _ _ _ _ _)
  | (with_reducible exact QX.mono _ _)
  | (with_reducible exact LeO.refl _)
  | (with_reducible exact LeO.none _)
  | (with_reducible refine LeO.ite ?_ ?_)
  | (with_reducible refine LeO.bind ?_ (fun _ => ?_))
  | exact ih0 _ _ _ _ _ _
  | exact QX.mono _ _
  | exact LeO.none _
  | refine LeO.ite ?_ ?_
  | refine LeO.bind ?_ (fun _ => ?_)
theorem QI.mono:∀ a0 a1 a2 a3 k,LeO (QI.f k a0 a1 a2 a3) (QI.f (k+1) a0 a1 a2 a3):=by
 intro a0 a1 a2 a3 k
 have ih0:=QI.mono_l k
 unfold QI.f
 repeat' first
   | (with_reducible exact ih0 _ _ _ _ _ _)
   | (with_reducible exact QX.mono _ _)
   | (with_reducible exact LeO.refl _)
   | (with_reducible exact LeO.none _)
   | (with_reducible refine LeO.ite ?_ ?_)
   | (with_reducible refine LeO.bind ?_ (fun _ => ?_))
   | exact ih0 _ _ _ _ _ _
   | exact QX.mono _ _
   | exact LeO.none _
   | refine LeO.ite ?_ ?_
   | refine LeO.bind ?_ (fun _ => ?_)
def QI.T5:Bool × List (List Nat × List Nat):=(true,[([],[]),([],[]),([],[]),([2],[2]),([],[]),([],[]),([4,5],[4,5]),([6],[6]),([],[]),([7,8],[7,8]),([9],[9]),([3,10],[3,10]),([1,11],[1,11]),([12],[12]),([0,13,11],[0,13]),([14,14,0,1,2,3,4,5,6,7,8,9,10,11,12,13,14],[0,14])])
def QI.B5:List Nat:=[0,0,0,4,0,0,48,112,0,496,1008,2044,4094,8190,16383,32767]
theorem QI.tab5:rtab .any (qbH Try.f71 5)=QI.T5:=by kernel_rfl
theorem QI.bits5:Kv QI.T5.2 QI.B5=true:=by kernel_rfl
set_option maxHeartbeats 8000000 in
set_option maxRecDepth 100000 in
theorem QI.calls (k:Nat) (Jy:Int) (A1:Option Addr) (c1:Nat) (l1:List Int) (A2:Option Addr) (c2:Nat) (l2:List (List (S25))) (a3:Int) (r:Int) (w:World) (hr1:Kd.C (Kd.int .i64) w A1 l1.length l1) (hc1:l1.length≤c1) (hr2:Kd.C (Kd.slice 25 k25) w A2 l2.length l2) (hc2:l2.length≤c2) (h:QI.f k Jy l1 l2 a3=some r) :
  Calls Try.prog 71 #[.agg #[.func (.func 69) #[] #[]],.slice A1 l1.length c1,.slice A2 l2.length c2,.int .i64 a3] w fun e w'=>e = .returned (.int .i64 r)∧Below w.heap.size w w':=by
 have quY:=Try.underlying104
 have Xc:=Try.underlying25
 have HR1:=Q0.mk hr1
 have HC1:=Q0.mk hc1
 clear hr1 hc1
 have HR2:=Q0.mk hr2
 have HC2:=Q0.mk hc2
 clear hr2 hc2
 have HB:=Q0.mk (Below.refl w.heap.size w)
 have H:(QI.l0 k l2 a3 ([]:List Int) l1 (l1.length:Int) 0)=some r:=h
 clear h
 have H':=Q0.mk H
 clear H
 go_enter Try.func71,Try.ntmps71
 go_wp2_with (first|((with_reducible refine Y0 (N:=4) rfl ?_);refine Yv ?hg (N:=4) ?hd (cs:=#[.func (.func 69) #[] #[]]) (t:=104) ?hr ?_;(case hd=>rfl);(case hg=>rfl);(case hr=>first|(go_simp;done)|(go_simp;rfl));intro Wd hg w5 hbox hb;have n0_:=Q0.mk (Qv (by repeat (first|(with_reducible first|exact HB.out|apply Q2|apply Q1|apply Q4)|exact HB.out)) hb);have n1_:=Q0.mk (hbox);have n2_:=Q0.mk ((by rw [hg];exact (Qn (by repeat (first|(with_reducible first|exact HB.out|apply Q2|apply Q1|apply Q4)|exact HB.out))):w.heap.size≤Wd));have n3_:=n2_;clear HB;have HB:=n0_;have Jo:=n1_;have qr3:=n2_;have UY:=n3_;clear n0_ n1_ n2_ n3_ hb hbox hg))
 go_loopg [9,14] k (fun kq v9 v14 w' => ∃ (UV:List Int) (Z5:Int),v14 = .int .i64 Z5∧Q0 (QI.l0 kq l2 a3 UV l1 (l1.length:Int) Z5=some r)∧Q0 (kq≤k)∧Q0 (Kd.R (Kd.int .i64) 3 w' w.heap.size (fun _=>True) v9 UV)∧Q0 (w'.heap[Wd]? = some (.cells #[.func (.func 69) #[] #[]] 104 (0,0)))∧Q0 (Below w.heap.size w w'))
 case atStart=>exact ⟨(([]:List Int)),(0),(by first|rfl|(simp;done)|(simp [*];done)),H',⟨Nat.le_refl _⟩,⟨by first|exact Kd.R_nil _ _ _ _ _|exact Kd.N_nil _ _ _ _ _|exact Kd.V_nil _ _ _ _ _|exact Kd.Q_nil _ _ _ _ _|exact Kd.S_nil _ _ _ _ _⟩,⟨by (with_reducible repeat (first|refine Q5 ?_ _|refine Q7 ?_|refine Q3 ?_ _));exact Jo.out⟩,⟨by repeat (first|(with_reducible first|exact HB.out|apply Q2|apply Q1|apply Q4|refine Q8 ?_ UY.out)|exact HB.out)⟩⟩
 clear H'
 try clear c1
 try clear c2
 try clear p2
 obtain ⟨UV,Z5,rfl,HA,HK1,HO_9,Jo,HB⟩:=hrel
 cases gk with
 | zero=>exact absurd HA.out (by simp [QI.l0])
 | succ k1 =>
  have H:=HA.out
  clear HA
  simp only [QI.l0] at H
  by_cases c6:Z5<(l1.length:Int)
  ·
   rw [if_pos c6] at H
   have c6b0:decide (Z5<(l1.length:Int))=true:=decide_eq_true c6
   clear c6
   by_cases c7:0≤Z5
   ·
    rw [if_pos c7] at H;have c7b0:decide (0≤Z5)=true:=decide_eq_true c7;clear c7
    by_cases c8:Z5<(l1.length:Int)
    ·
     rw [if_pos c8] at H;have c8b0:decide (Z5<(l1.length:Int))=true:=decide_eq_true c8;clear c8
     by_cases c9:Z5<(l2.length:Int)
     ·
      rw [if_pos c9] at H;have c9b0:decide (Z5<(l2.length:Int))=true:=decide_eq_true c9;clear c9
      by_cases c10:0≤a3
      ·
       rw [if_pos c10] at H;have c10b0:decide (0≤a3)=true:=decide_eq_true c10;clear c10
       by_cases c11:a3<((Yx l2 Z5).length:Int)
       ·
        rw [if_pos c11] at H;have c11b0:decide (a3<((Yx l2 Z5).length:Int))=true:=decide_eq_true c11;clear c11;replace H:=Option.bind_eq_some_iff.mp H;obtain ⟨XG,qbe,H⟩:=H;replace H:(if UV.length<17592186044416 then (QI.l0 k1 l2 a3 (UV++[wrap64 ((rd l1 Z5)*XG)]) l1 (l1.length:Int) (wrap64 (Z5+1))) else (none))=some r:=H;have A12:=Q0.mk qbe;clear qbe
        by_cases c13:UV.length<17592186044416
        ·
         rw [if_pos c13] at H;have qk9:=Q0.mk c13;clear c13;obtain ⟨qmN,WK⟩:∃ y_:List Int,y_=(UV++[wrap64 ((rd l1 Z5)*XG)]):=⟨_,rfl⟩
         replace H:(QI.l0 k1 l2 a3 qmN l1 (l1.length:Int) (wrap64 (Z5+1)))=some r:=by first|(rw [WK];with_reducible exact H)|(have H2_:=(Option.bind_some _ _).symm.trans H;rw [WK];with_reducible exact H2_)|(have H2_:=(Option.bind_some _ _).symm.trans H;with_reducible exact H2_)|with_reducible exact H|(rw [WK];exact H)|exact H
         have qlb:=Q0.mk WK;clear WK;have H':=Q0.mk H;clear H;have qhF:0≤(Z5:Int):=of_decide_eq_true (by first|(with_reducible assumption)|assumption);have qhU:Z5<(l1.length:Int):=of_decide_eq_true (by first|(with_reducible assumption)|assumption);obtain ⟨qsr,qqu,Wp⟩:=Kd.at_int HR1.out Z5 qhF qhU;cases qqu;replace Wp:=(HB.out.cell (World.block_lt_of_cell? w _ Wp)).trans Wp;replace qhF:=eq_true qhF;replace qhU:=eq_true qhU
         try go_wp2
         have n0_:=Q0.mk (Kd.R_drew HO_9.out);have n1_:=Q0.mk (Q7 Jo.out);have n2_:=Q0.mk (Q4 HB.out);clear HO_9 Jo HB;have HO_9:=n0_;have Jo:=n1_;have HB:=n2_;clear n0_ n1_ n2_;have qhG:0≤(Z5:Int):=of_decide_eq_true (by first|(with_reducible assumption)|assumption);have qhV:Z5<(l2.length:Int):=of_decide_eq_true (by first|(with_reducible assumption)|assumption);obtain ⟨qlg,qqd,qhh,qqv,KW,qax,qat⟩:=qcX HR2.out Z5 qhG qhV;have Jz:=KW;cases qqv;replace KW:=(HB.out.cell (World.block_lt_of_cell? w _ KW)).trans KW;have XO:=Q0.mk qat;have qmW:=Q0.mk qax;clear qat qax;replace qhG:=eq_true qhG;replace qhV:=eq_true qhV;have qhH:0≤(a3:Int):=of_decide_eq_true (by first|(with_reducible assumption)|assumption);have qhW:a3<((Yx l2 Z5).length:Int):=of_decide_eq_true (by first|(with_reducible assumption)|assumption);obtain ⟨XR,qqw,KX,KY⟩:=ZD XO.out a3 qhH qhW;have JC:=KY;have JA:=KX;cases qqw;replace KX:=(HB.out.cell (World.block_lt_of_cell? w _ KX)).trans KX;replace KY:=(HB.out.cell (World.block_lt_of_cell? w _ KY)).trans KY;replace qhH:=eq_true qhH;replace qhW:=eq_true qhW;refine GU (n:=16) (S:=fun w'=>w'.cell? ⟨Wd,0,none⟩=some (.func (.func 69) #[] #[])∧w'.cell? (qlg.add (Z5).toNat)=some (.slice (some XR) (Yx l2 Z5).length qhh)∧w'.cell? (XR.add ((a3).toNat*2))=some (.int .i64 ((Qo (Yx l2 Z5) a3).f0))∧w'.cell? ⟨(XR.add ((a3).toNat*2)).block,(XR.add ((a3).toNat*2)).off+1,none⟩=some (.int .i64 ((Qo (Yx l2 Z5) a3).f1))) (ds:=[]) (Qg 16 0) (by kernel_rfl) rfl rfl ⟨(Q9 Jo.out 0).trans rfl,((HB.out.cell (World.block_lt_of_cell? w _ Jz)).trans Jz),((HB.out.cell (World.block_lt_of_cell? w _ JA)).trans JA),((HB.out.cell (World.block_lt_of_cell? w _ JC)).trans JC)⟩ (fun hHeld => ?_);refine Jn QI.tab5 QI.bits5 (fun HT_ HW_ => ?_)
         generalize wr.drew=w14 at HO_9 Jo HB XO KW KX KY hHeld ⊢
         refine Qh 0 (some 19) (Qg 16 1) rfl rfl HT_.out (by kernel_rfl) (fun _ _ _ h=>h) ⟨.inl ⟨by rfl,fun w'=>by go_simp;with_reducible rfl⟩,by simp only [Qf,Qb,Qe,Qd,Qc,Qk,Qm];rfl,?_⟩;refine Qh 1 (some 20) (Qg 16 3) rfl rfl HT_.out (by kernel_rfl) (fun _ _ _ h=>h) ⟨.inl ⟨by rfl,fun w'=>by go_simp;with_reducible rfl⟩,by simp only [Qf,Qb,Qe,Qd,Qc,Qk,Qm];rfl,?_⟩;refine Qh 2 (some 21) (Qg 16 7) rfl rfl HT_.out (by kernel_rfl) (fun _ _ _ h=>h) ⟨.inl ⟨by rfl,fun w'=>by go_simp;with_reducible rfl⟩,by simp only [Qf,Qb,Qe,Qd,Qc,Qk,Qm];rfl,?_⟩;refine Qh 4 (some 23) (Qg 16 23) rfl rfl HT_.out (by kernel_rfl) (fun _ _ _ h=>h) ⟨.inl ⟨by rfl,fun w'=>by go_simp;with_reducible rfl⟩,by simp only [Qf,Qb,Qe,Qd,Qc,Qk,Qm];rfl,?_⟩;refine Qh 5 (some 24) (Qg 16 55) rfl rfl HT_.out (by kernel_rfl) (fun _ _ _ h=>h) ⟨.inl ⟨by rfl,fun w'=>by go_simp;with_reducible rfl⟩,by simp only [Qf,Qb,Qe,Qd,Qc,Qk,Qm];rfl,?_⟩;refine Qh 6 (some 25) (Qg 16 119) rfl rfl HT_.out (by kernel_rfl) (fun _ _ _ h=>h) ⟨.inl ⟨by rfl,fun w'=>by go_simp;with_reducible rfl⟩,by simp only [Qf,Qb,Qe,Qd,Qc,Qk,Qm];rfl,?_⟩;refine Qh 8 (some 27) (Qg 16 375) rfl rfl HT_.out (by kernel_rfl) (fun _ _ _ h=>h) ⟨.inl ⟨by rfl,fun w'=>by go_simp;with_reducible rfl⟩,by simp only [Qf,Qb,Qe,Qd,Qc,Qk,Qm];rfl,?_⟩;refine Yn 3 (some 22) (Qg 16 383) rfl rfl (Yo HT_.out HW_.out (by kernel_rfl)) (fun _ _ _ h=>h) hHeld ⟨.inl ⟨by rfl,by rintro w' ⟨s0,s1,s2,s3⟩;go_simp;with_reducible rfl⟩,by simp only [Qf,Qb,Qe,Qd,Qc,Qk,Qm];rfl,?_⟩;refine Yn 7 (some 26) (Qg 16 511) rfl rfl (Yo HT_.out HW_.out (by kernel_rfl)) (fun _ _ _ h=>h) hHeld ⟨.inl ⟨by rfl,by rintro w' ⟨s0,s1,s2,s3⟩;go_simp;with_reducible rfl⟩,by simp only [Qf,Qb,Qe,Qd,Qc,Qk,Qm];rfl,?_⟩;refine Qh 9 (some 28) (Qg 16 1023) rfl rfl HT_.out (by kernel_rfl) (fun _ _ _ h=>h) ⟨.inl ⟨by rfl,fun w'=>by go_simp;with_reducible rfl⟩,by simp only [Qf,Qb,Qe,Qd,Qc,Qk,Qm];rfl,?_⟩;refine Yn 10 (some 29) (Qg 16 2047) rfl rfl (Yo HT_.out HW_.out (by kernel_rfl)) (fun _ _ _ h=>h) hHeld ⟨.inl ⟨by rfl,by rintro w' ⟨s0,s1,s2,s3⟩;go_simp;with_reducible rfl⟩,by simp only [Qf,Qb,Qe,Qd,Qc,Qk,Qm];rfl,?_⟩;refine one_ (i:=11) (N:=some 30) (Qg 16 4095) rfl rfl (Gf HT_.out (by kernel_rfl)) (by decide) (fun K hK => ?_);refine qep Try.func69 (by kernel_rfl) rfl #[.agg #[.int .i64 ((Qo (Yx l2 Z5) a3).f0),.int .i64 ((Qo (Yx l2 Z5) a3).f1)]] 22 (by rfl) rfl rfl rfl (by (try simp only [List.map_toArray,List.map_cons,List.map_nil]);first|done|rfl|(simp only [List.length_drop,List.length_take];rfl)) ?_
         with_reducible refine (JO.calls ((Qo (Yx l2 Z5) a3).f0) ((Qo (Yx l2 Z5) a3).f1) XG _ A12.out).mono ?_
         rintro e w15 ⟨rfl,hb⟩;refine ⟨_,rfl,?_⟩;have n0_:=Q0.mk (Kd.R_below (by (with_reducible repeat (first|apply Kd.R_alloc|apply Kd.R_drewN|apply Kd.R_drew));exact HO_9.out) hb);have n1_:=Q0.mk (Qp (g:=Wd) (o:=.cells #[.func (.func 69) #[] #[]] 104 (0,0)) (by (with_reducible repeat (first|refine Q5 ?_ _|refine Q7 ?_|refine Q3 ?_ _));exact Jo.out) hb);have n2_:=Q0.mk (Qv (by repeat (first|(with_reducible first|exact HB.out|apply Q2|apply Q1|apply Q4|refine Q8 ?_ UY.out)|exact HB.out)) hb);clear HO_9 Jo HB;have HO_9:=n0_;have Jo:=n1_;have HB:=n2_;clear n0_ n1_ n2_
         (try clear hb)
         (try clear hb2)
         (try clear hk)
         (try clear hi)
         refine hK.out _ _ ⟨(Q9 Jo.out 0).trans rfl,((HB.out.cell (World.block_lt_of_cell? w _ Jz)).trans Jz),((HB.out.cell (World.block_lt_of_cell? w _ JA)).trans JA),((HB.out.cell (World.block_lt_of_cell? w _ JC)).trans JC)⟩ (fun hHeld => ?_);clear hK K;refine G9 (a':=?_) ?_ ?_;rotate_left
         ·
          show Act.put _ (some 30) _=_
          simp only [Qf,Qb,Qe,Qd,Qc,Qk,Qm];rfl
         refine Qh 12 (some 31) (Qg 16 8191) rfl rfl HT_.out (by kernel_rfl) (fun _ _ _ h=>h) ⟨.inl ⟨by rfl,fun w'=>by go_simp;with_reducible rfl⟩,by simp only [Qf,Qb,Qe,Qd,Qc,Qk,Qm];rfl,?_⟩;refine one_ (i:=13) (N:=some 32) (Qg 16 16383) rfl rfl (Gf HT_.out (by kernel_rfl)) (by decide) (fun K hK => ?_);refine qii (w1:=?_) (v:=?_) (by rfl) rfl ?_ ?_
         rotate_left 2
         ·
          go_simp
          constructor
          · rfl
          rfl
         refine hK.out _ _ ⟨(Q9 (Q3 Jo.out _) 0).trans rfl,(World.cell?_alloc_lt _ _ _ (World.block_lt_of_cell? _ _ (((HB.out.cell (World.block_lt_of_cell? w _ Jz)).trans Jz)))).trans (((HB.out.cell (World.block_lt_of_cell? w _ Jz)).trans Jz)),(World.cell?_alloc_lt _ _ _ (World.block_lt_of_cell? _ _ (((HB.out.cell (World.block_lt_of_cell? w _ JA)).trans JA)))).trans (((HB.out.cell (World.block_lt_of_cell? w _ JA)).trans JA)),(World.cell?_alloc_lt _ _ _ (World.block_lt_of_cell? _ _ (((HB.out.cell (World.block_lt_of_cell? w _ JC)).trans JC)))).trans (((HB.out.cell (World.block_lt_of_cell? w _ JC)).trans JC))⟩ (fun hHeld => ?_);clear hK K;refine G9 (a':=?_) ?_ ?_;rotate_left
         ·
          show Act.put _ (some 32) _=_
          simp only [Qf,Qb,Qe,Qd,Qc,Qk,Qm];rfl
         refine one_ (i:=14) (N:=some 33) (Qg 16 32767) rfl rfl (Gf HT_.out (by kernel_rfl)) (by decide) (fun K hK => ?_);refine Kd.R_append_step (Kd.int .i64) (w0:=w) w.heap.size (by rfl) (.tmp 19) (.tmp 32) 37 3 (.int .i64 0) 8 rfl Try.underlying37 Xm rfl (by decide) (by omega) u9 UV (wrap64 ((rd l1 Z5)*XG)) [.int .i64 (wrap64 ((rd l1 Z5)*XG))] (fun _=>True) (fun _=>False) rfl rfl ?aP (fun _ hk=>hk.elim) ?aF ?aO ?aB ?aS ?aL ?_
         (case aP=>exact rfl)
         (case aB=>exact (by repeat (first|(with_reducible first|exact HB.out|apply Q2|apply Q1|apply Q4|refine Q8 ?_ UY.out)|exact HB.out)))
         (case aF=>exact (fun _ _=>trivial))
         (case aO=>exact (by (with_reducible repeat (first|apply Kd.R_alloc|apply Kd.R_drewN|apply Kd.R_drew));exact HO_9.out))
         (case aS=>exact (Qn (by repeat (first|(with_reducible first|exact HB.out|apply Q2|apply Q1|apply Q4|refine Q8 ?_ UY.out)|exact HB.out))))
         (case aL=>have:=qk9.out;omega)
         intro v139 w16 ho hb hg hat;rw [← qlb.out] at ho;have n0_:=Q0.mk (JZ (g:=Wd) (o:=.cells #[.func (.func 69) #[] #[]] 104 (0,0)) (by (with_reducible repeat (first|refine Q5 ?_ _|refine Q7 ?_|refine Q3 ?_ _));exact Jo.out) hg (Kd.R_ne HO_9.out Jo.out (by decide)));have n1_:=Q0.mk (hb);have n2_:=Q0.mk (ho);clear Jo HB HO_9;have Jo:=n0_;have HB:=n1_;have qk4:=n2_;clear n0_ n1_ n2_ ho hb hg hat;refine hK.out _ _ ⟨(Q9 Jo.out 0).trans rfl,((HB.out.cell (World.block_lt_of_cell? w _ Jz)).trans Jz),((HB.out.cell (World.block_lt_of_cell? w _ JA)).trans JA),((HB.out.cell (World.block_lt_of_cell? w _ JC)).trans JC)⟩ (fun hHeld => ?_);clear hK K;refine G9 (a':=?_) ?_ ?_;rotate_left
         ·
          show Act.put _ (some 33) _=_
          simp only [Qf,Qb,Qe,Qd,Qc,Qk,Qm];rfl
         refine Qh 15 (some 9) (Qg 16 65535) rfl rfl HT_.out (by kernel_rfl) (fun _ _ _ h=>h) ⟨.inl ⟨by rfl,fun w'=>by go_simp;with_reducible rfl⟩,by simp only [Qf,Qb,Qe,Qd,Qc,Qk,Qm];rfl,?_⟩;refine Oz (Ga HT_.out (by kernel_rfl)) ?_
         try go_wp2
         go_roundg k1
         case measure=>have:=HK1.out;omega
         case rel=>exact ⟨(qmN),(wrap64 (Z5+1)),(by first|rfl|(simp;done)|(simp [*];done)),H',⟨by have:=HK1.out;omega⟩,⟨by (with_reducible repeat (first|apply Kd.R_alloc|apply Kd.R_drewN|apply Kd.R_drew));exact qk4.out⟩,⟨by (with_reducible repeat (first|refine Q5 ?_ _|refine Q7 ?_|refine Q3 ?_ _));exact Jo.out⟩,⟨by repeat (first|(with_reducible first|exact HB.out|apply Q2|apply Q1|apply Q4|refine Q8 ?_ UY.out)|exact HB.out)⟩⟩
        rw [if_neg c13] at H
        exact absurd H (by simp)
       rw [if_neg c11] at H
       exact absurd H (by simp)
      rw [if_neg c10] at H
      exact absurd H (by simp)
     rw [if_neg c9] at H
     exact absurd H (by simp)
    rw [if_neg c8] at H
    exact absurd H (by simp)
   rw [if_neg c7] at H
   exact absurd H (by simp)
  rw [if_neg c6] at H
  have c6b0:decide (Z5<(l1.length:Int))=false:=decide_eq_false c6
  clear c6
  replace H:=Option.bind_eq_some_iff.mp H
  obtain ⟨t141,qkP,H⟩:=H
  replace H:(some t141)=some r:=H
  have A17:=Q0.mk qkP
  clear qkP
  obtain rfl:=Option.some.inj H
  obtain ⟨qqe,qqs,qqG⟩:=Kd.R_slice HO_9.out
  subst qqG
  go_wp2_with (first|((with_reducible refine QF (f:=97) rfl ?_);refine YE (some 36) rfl rfl Try.func97 (by kernel_rfl) rfl #[.slice qqe UV.length qqs] rfl (by (try simp only [List.map_toArray,List.map_cons,List.map_nil]);first|done|rfl|(simp only [List.length_drop,List.length_take];rfl)) ?_;(with_reducible refine (QX.calls k1 _ _ UV t141 _ ?side1 ?side2 A17.out).mono ?_);(case side1=>repeat (first|exact (Kd.R_reads' HO_9.out).2.2|(with_reducible refine Kd.C_alloc ?_ _)|(with_reducible refine Kd.C_drewN ?_ _)|(with_reducible refine Kd.C_drew ?_)));(case side2=>exact (Kd.R_reads' HO_9.out).2.1);rintro e w' ⟨rfl,⟨nd,rfl⟩⟩;refine ⟨_,rfl,?_⟩))
  go_ret
  exact ⟨by first|rfl|(simp [QC,QD]<;>rfl)|(simp [*,QC,QD]<;>rfl),by repeat (first|(with_reducible first|exact HB.out|apply Q2|apply Q1|apply Q4|refine Q8 ?_ UY.out)|exact HB.out)⟩
end
end Go.Proofs.Ytmhomdohhihlcaa.P
namespace Go.Proofs.Ytmhomdohhihlcaa.P
open Go.RowKit Go.Shelf Go.Proofs.YtmhomdohhihlcaaW.PrintWords Go.Proofs.YtmhomdohhihlcaaW.PrintLast Go.Proofs.YtmhomdohhihlcaaW.PrintMore
attribute [local go_sem] Oper.semAt_some
section
variable {F:Fence} {n:Nat} {P:Program} {a:Act} {w:World} {Q:Exit→Act→World→Prop}
theorem KP {b:Frame} {c:Code} {k:List Item} {cs:List Frame}:step P (lone (b.atR a (.code (.scope c)::k)) cs w) = .next (lone (b.atR a (.code c :: .inScope c::k)) cs w) :=
 step_lone_go (by simp [stepG,stepG.exec,Frame.atR])
theorem qdK {b:Frame} {c:Code} {k:List Item} {cs:List Frame}:step P (lone (b.atR a (.inScope c::k)) cs w) = .next (lone (b.atR a k) cs w) :=
 step_lone_go (by simp [stepG,stepG.exec,Frame.atR])
theorem qil {c:Code} (h:c.wpIn F n P (Exit.noGoto Q) a w):(Code.scope c).wpIn F n P Q a w:=by
 intro b k cs hro hb hr
 have h0:(lone (b.atR a (.code (.scope c)::k)) cs w).fenced P F:=fenced_calm hb hr rfl
 obtain ⟨e,a₁,w₁,hq,harr⟩:=h b (.inScope c::k) cs hro hb hr
 cases e with
 | normal=>exact ⟨.normal,a₁,w₁,hq,.head h0 KP (StepsIn.trans harr (.one (fenced_calm hb hr rfl) qdK))⟩
 | exit id' =>
  have hx:exitTo id' (.inScope c::k)=exitTo id' k:=by simp [exitTo]
  exact ⟨.exit id',a₁,w₁,hq,fun k' hk => .head h0 KP (harr.1 k' (by rw [hx];exact hk)),
    fun hr' hk=>let ⟨k₁,h1,h2⟩:=harr.2 hr' (by rw [hx];exact hk);⟨k₁,h1,.head h0 KP h2⟩⟩
 | goto l=>exact hq.elim
 | ret=>exact ⟨_,a₁,w₁,hq,.of_steps (.one h0 KP) harr⟩
 | panic ch=>exact ⟨_,a₁,w₁,hq,.of_steps (.one h0 KP) harr⟩
 | outgrown=>exact ⟨_,a₁,w₁,hq,.of_steps (.one h0 KP) harr⟩
end
structure Stop (p:Prop):Prop where
 out:p
theorem Xd {l n:Nat} {P:Program} {id:Nat} {Q:Exit→Act→World→Prop} {a:Act} {w:World} {ops:List Oper} (m:Nat) (hm:P.follows .mixedOrders=true) (hno:¬ LetsOut Q) (hd:ops.toArray.all (fun o=>match o.op with | .defer _=>false|_=>true)=true) (hB:Region.lexTailB .any ops.toArray m=true)
  (h:wpStill P ops.toArray { w with drawn:=w.drawn+1 } (fun a'=>wpList P ops.toArray Q (ops.drop m) a' { w with drawn:=w.drawn+1 }) (ops.take m) a):(Code.region id ops.toArray true).wpIn (Fence.wide.inRound l) n P Q a w:=by
 simp only [Region.lexTailB,Bool.and_eq_true,decide_eq_true_eq] at hB
 obtain ⟨⟨⟨⟨hsel,hn⟩,hs⟩,hc⟩,hlex⟩:=hB
 have hn':m<ops.length:=by simpa using hn
 have htl:(ops.take m).length=m:=by simp;omega
 have hdl:(ops.drop m).length=ops.toArray.size-m:=by simp
 have inv0:HeadInv .any ops.toArray m (Array.replicate ops.toArray.size false) :=
  ⟨by simp,fun j oj _ hl=>(by rw [getD_replicate_false] at hl;cases hl),fun t _ ht=>getD_in (by simpa using ht) (getD_replicate_false _ _)⟩
 have H:=wpAnyL_lex (md:=.any) (g:=ops.toArray.size-m) hsel hs hc hn (ops.take m) 0 _ a (fun j hj=>by
  have hj':j<m:=by rw [htl] at hj;exact hj
  simp [hj']) (by simpa using htl) inv0 (by rw [htl];exact hlex) h
 refine OR hm hno hd ?_
 have:=wpAny_of_head (Q':=Q) (g:=ops.toArray.size-m) (fun listed a' hL=>by
  have:=wpAny_of_seq (md:=.any) (Q':=Q) (ops.drop m) m listed a' { w with drawn:=w.drawn+1 } (fun j=>by simp [List.getElem?_drop]) (by rw [hdl];exact hL.1) hL.2
  rwa [hdl] at this) _ _ _ H
 rw [htl,show m+(ops.toArray.size-m)=ops.toArray.size by omega] at this
 exact this
def Qr.ag (k:Nat) (l0:List (List S25)) (l1:List S25) (mix:List Int):Nat→Int→Option Bool
 | 0,_=>some true
 | d+1,i=>(QL.f k 0 mix l0 i).bind fun lo=>if wrap64 (100*(Qo l1 i).f1)<lo then some false else
   (QI.f k 0 mix l0 i).bind fun hi=>if hi<wrap64 (100*(Qo l1 i).f0) then some false else Qr.ag k l0 l1 mix d (i+1)
def Qr.wide (out:List S25) (mix:List Int):List S25:=(out.zip mix).map fun p=>⟨if p.2<p.1.f0 then p.2 else p.1.f0,if p.1.f1<p.2 then p.2 else p.1.f1⟩
def Qr.st (k:Nat) (l0:List (List S25)) (l1:List S25) (out:List S25) (mix:List Int):Option (List S25) :=
 (Qr.ag k l0 l1 mix l1.length 0).map fun b=>if b then Qr.wide (if out=[] then mix.map (fun n=>⟨n,n⟩) else out) mix else out
def Qr.all (k:Nat) (l0:List (List S25)) (l1:List S25):List (List Int)→List S25→Option (List S25)
 | [],out=>some out
 | x::xs,out=>(Qr.st k l0 l1 out x).bind fun o=>Qr.all k l0 l1 xs o
def Qr.sg (k:Nat) (n:Int):List (List S25)→Bool→Option Bool
 | [],ok=>some ok
 | x::xs,ok=>if ok then (QE.f k x n).bind fun b=>Qr.sg k n xs b else Qr.sg k n xs false
def Qr.f (k:Nat) (l0:List (List S25)) (l1:List S25):Option (List S25 × Int) :=
 (Qt.f (l0.length:Int) 1 3).bind fun b0=>(if b0 then QE.f k l1 (l1.length:Int) else some false).bind fun b1 =>
 (Qr.sg k (l1.length:Int) l0 b1).bind fun ok=>if ok then
  (Qr.all k l0 l1 (G2 (l0.length-1) 100 []) []).map fun out=>if out=[] then ([],4) else (out,0)
 else some ([],91)
def U1 (o:List S25) (x:List Int) (j:Nat):List S25:=Qr.wide (o.take j) (x.take j)++o.drop j
theorem qik (o:List S25) (x:List Int):U1 o x 0=o:=by simp [U1,Qr.wide]
theorem qkH {o:List S25} {x:List Int} (h:o.length=x.length):U1 o x x.length=Qr.wide o x:=by
 unfold U1
 rw [List.take_length,← h,List.take_length,List.drop_length,List.append_nil]
theorem qd7 {o:List S25} {x:List Int} (h:o.length=x.length) {j:Nat} (hj:j≤x.length):(U1 o x j).length=x.length:=by
 simp [U1,Qr.wide];omega
theorem qmI {o:List S25} {x:List Int} (h:o.length=x.length) {j:Nat} (hj:j<x.length):(U1 o x j).getD j z25=o.getD j z25:=by
 have hl:(Qr.wide (o.take j) (x.take j)).length=j:=by simp [Qr.wide];omega
 unfold U1
 rw [List.getD_eq_getElem?_getD,List.getD_eq_getElem?_getD,List.getElem?_append_right (by omega),hl,Nat.sub_self,List.getElem?_drop,Nat.add_zero]
theorem qij {o:List S25} {x:List Int} (h:o.length=x.length) {j:Nat} (hj:j<x.length) {p:S25} (hp:(U1 o x j).getD j z25=p) :
  (U1 o x j).set j ⟨if rd x (j:Int)<p.f0 then rd x (j:Int) else p.f0,if p.f1<rd x (j:Int) then rd x (j:Int) else p.f1⟩=U1 o x (j+1):=by
 rw [qmI h hj] at hp
 have hjo:j<o.length:=by omega
 have hl:(Qr.wide (o.take j) (x.take j)).length=j:=by simp [Qr.wide];omega
 have e1:o[j]=p:=by rw [← hp];simp [List.getD_eq_getElem?_getD,List.getElem?_eq_getElem hjo]
 have e2:rd x (j:Int)=x[j]:=by simp [rd,List.getD_eq_getElem?_getD,List.getElem?_eq_getElem hj]
 unfold U1
 rw [List.set_append_right _ _ (by omega),hl,Nat.sub_self,List.drop_eq_getElem_cons hjo,List.set_cons_zero,List.take_succ_eq_append_getElem hjo,List.take_succ_eq_append_getElem hj,e2]
 unfold Qr.wide
 rw [List.zip_append (by simp;omega),List.map_append,List.append_assoc]
 simp [e1]
theorem Qr.ag_mono (l0:List (List S25)) (l1:List S25) (mix:List Int) (k:Nat):∀ (d:Nat) (i:Int),LeO (Qr.ag k l0 l1 mix d i) (Qr.ag (k+1) l0 l1 mix d i)
 | 0,_=>LeO.refl _
 | d+1,i=>LeO.bind (QL.mono _ _ _ _ _) (fun _=>LeO.ite (LeO.refl _) (LeO.bind (QI.mono _ _ _ _ _) (fun _=>LeO.ite (LeO.refl _) (Qr.ag_mono l0 l1 mix k d (i+1)))))
theorem Qr.all_mono (l0:List (List S25)) (l1:List S25) (k:Nat):∀ (xs:List (List Int)) (o:List S25),LeO (Qr.all k l0 l1 xs o) (Qr.all (k+1) l0 l1 xs o)
 | [],_=>LeO.refl _
 | x::xs,o=>LeO.bind (LeO.map _ (Qr.ag_mono l0 l1 x k _ _)) (fun o2=>Qr.all_mono l0 l1 k xs o2)
theorem Qr.sg_mono (n:Int) (k:Nat):∀ (xs:List (List S25)) (b:Bool),LeO (Qr.sg k n xs b) (Qr.sg (k+1) n xs b)
 | [],_=>LeO.refl _
 | x::xs,b=>LeO.ite (LeO.bind (QE.mono _ _ _) (fun b2=>Qr.sg_mono n k xs b2)) (Qr.sg_mono n k xs false)
structure KR (w:World) (A0:Option Addr) (c0 n0:Nat) (A1:Option Addr) (c1 n1:Nat) (W:World):Prop where
 b2:W.heap[w.heap.size]? = some (.cells #[.slice A0 n0 c0] 31 (0,0))
 b3:W.heap[w.heap.size+1]? = some (.cells #[.slice A1 n1 c1] 32 (0,0))
 below:Below w.heap.size w W
theorem KR.keep {w:World} {A0 A1:Option Addr} {c0 n0 c1 n1:Nat} {W W1:World} (h:KR w A0 c0 n0 A1 c1 n1 W) (hb:Below W.heap.size W W1):KR w A0 c0 n0 A1 c1 n1 W1 :=
 ⟨Qp h.b2 hb,Qp h.b3 hb,h.below.trans (hb.mono h.below.size)⟩
theorem KR.drew {w:World} {A0 A1:Option Addr} {c0 n0 c1 n1:Nat} {W:World} (h:KR w A0 c0 n0 A1 c1 n1 W) (m:Nat):KR w A0 c0 n0 A1 c1 n1 (W.drewN m) :=
 ⟨h.b2,h.b3,Q1 h.below m⟩
theorem qjD {k:Nat} {n:Int}:∀ {l:List (List S25)} {b:Bool},Qr.sg k n l b=some true→b=true
 | [],b,h=>by simpa [Qr.sg] using h
 | x::l,true,_=>rfl
 | x::l,false,h=>by
  rw [Qr.sg,if_neg (by decide)] at h
  exact qjD h
theorem qg5 {a b c:Int} (h:Qt.f a b c=some true):b≤a∧a≤c:=by
 unfold Qt.f at h
 by_cases h1:b≤a
 · rw [if_pos h1] at h;exact ⟨h1,by simpa using h⟩
 ·
  rw [if_neg h1] at h
  simp at h
theorem qe2 {n:Nat} {P:Program} {g:Operand} {p q:Tmp} {assign body:Code} {Q:Exit→Act→World→Prop} {a:Act} {w:World}
  {gf:Nat} {lb:Array Value} (hg:a.eval g = .func (.func gf) #[] lb) (eg:∀ args w,(callFunc gf args).run P w = .ok (.enter gf args) w)
  {B:Nat} {xs:List (List Int)} {w0:World} (hseq:qbf (n-1) P gf lb B xs w0) (hb0:Below w0.heap.size w0 w)
  (I:List (List Int)→World→Prop) (hI:OwnFrom w.heap.size I) (hI0:∀ W1 W2 row,I [] W1→W1.grownBy W2 row→(∀ r,row=some r→w.heap.size≤r)→I [] W2) (h0:I [] w)
  (hassign:∀ (l:Nat) (v:Value) (W:World) (K:Act→World→Prop),K { tmps:=(a.tmps.setIfInBounds p v).setIfInBounds q v,defers:=[] } W →
   assign.wpIn (Fence.wide.inRound l) (n-1-1) P (Exit.then K (fun _ _ _=>False)) { tmps:=a.tmps.setIfInBounds p v,defers:=[] } W)
  (hbody:∀ (l:Nat) (pre:List (List Int)) (v:Value) (x:List Int) (W:World),I pre W→pre++[x] <+: xs→Kd.R (Kd.int .i64) 3 W B (fun _=>True) v x→body.wpIn (Fence.wide.inRound l) (n-1-1) P (qgJ B w.heap.size I (pre++[x]) W) { tmps:=(a.tmps.setIfInBounds p v).setIfInBounds q v,defers:=[] } W)
  (hdone:∀ (D:Nat) (W:World),w.heap.size≤D→I xs W→W.heap[D]? = some (.deferred (some []))→Q .normal { a with defers:={ target:=.collected D,args:=#[] }::a.defers } W) :
  (Code.rangeFunc g #[p] assign body).wpIn Fence.wide n P Q a w :=
 qdv hg eg hseq hb0 I hI hI0 h0 (fun v => { tmps:=(a.tmps.setIfInBounds p v).setIfInBounds q v,defers:=[] }) (fun l v W K hK=>by
  have:=hassign l v W K hK
  simpa using this) hbody hdone
structure ShI (w:World) (k:Nat) (l0:List (List S25)) (l1:List S25) (A0:Option Addr) (c0:Nat) (A1:Option Addr) (c1 lb hb ob B:Nat) (pre:List (List Int)) (W:World):Prop where
 ex:∃ (v:Value) (out:List S25),Qr.all k l0 l1 pre []=some out∧W.heap[ob]? = some (.cells #[v] 32 (0,0))∧Kd.R k25 25 W B (fun _=>True) v out∧(v = .slice none 0 0↔out=[])
 bx:KR w A0 c0 l0.length A1 c1 l1.length W
 lo:W.heap[lb]? = some (.cells #[.func (.func 68) #[] #[]] 104 (0,0))
 hi:W.heap[hb]? = some (.cells #[.func (.func 69) #[] #[]] 104 (0,0))
 sz:B≤W.heap.size
theorem Oi {W W1:World} {row:Option Nat} (hg:W.grownBy W1 row) (hr:∀ r,row=some r → ∃ o:Obj,W.heap[r]? = some o∧o.isCells=false) {g t:Nat} {cs:Array Value} {x:Nat × Nat} (h:W.heap[g]? = some (.cells cs t x)):W1.heap[g]? = some (.cells cs t x) :=
 (hg.block g (Array.getElem?_eq_some_iff.1 h).1 (fun e=>by obtain ⟨o,ho,hc⟩:=hr g e.symm;rw [h] at ho;cases ho;cases hc)).trans h
theorem ShI.step {w:World} {k:Nat} {l0:List (List S25)} {l1:List S25} {A0 A1:Option Addr} {c0 c1 lb hb ob B:Nat} {pre:List (List Int)} {W W1:World} {row:Option Nat} (h:ShI w k l0 l1 A0 c0 A1 c1 lb hb ob B pre W)
  (hg:W.grownBy W1 row) (hr:∀ r,row=some r→w.heap.size≤r ∧ ∃ o:Obj,W.heap[r]? = some o∧o.isCells=false):ShI w k l0 l1 A0 c0 A1 c1 lb hb ob B pre W1:=by
 have hr2:∀ r,row=some r → ∃ o:Obj,W.heap[r]? = some o∧o.isCells=false:=fun r e=>(hr r e).2
 obtain ⟨v,out,h1,h2,h3,h4⟩:=h.ex
 refine ⟨⟨v,out,h1,Oi hg hr2 h2,?_,h4⟩,⟨Oi hg hr2 h.bx.b2,Oi hg hr2 h.bx.b3,h.bx.below.grown hg h.bx.below.size (fun r e=>(hr r e).1)⟩,Oi hg hr2 h.lo,Oi hg hr2 h.hi,Nat.le_trans h.sz hg.size⟩
 refine Kd.R_mono (Kd.R_move (Kd.R_bound h3) (fun b hb => ?_)) (fun _ _=>trivial)
 obtain ⟨_,_,_,q,_,cs,hc⟩:=hb
 rw [hc]
 exact Oi hg hr2 hc
theorem _root_.Go.Proofs.YtmhomdohhihlcaaW.PrintWords.Kd.R_types2 {α:Type} {d:Kd α} {e:Nat} {w:World} {base:Nat} {ok:Nat→Prop} {v:Value} {xs:List α} (h:d.R e w base ok v xs) {g:Nat} {x:Option (List Deferred)} (hb:w.heap[g]? = some (.deferred x)):d.R e w base (fun k=>ok k∧k≠g) v xs :=
 Kd.R_mono (Kd.R_bound h) (fun k hk=>⟨hk.1,by
  obtain ⟨_,_,_,q,hq,cells',hc⟩:=hk
  rintro rfl
  rw [hc] at hb
  cases hb⟩)
theorem all_append {k:Nat} {l0:List (List S25)} {l1:List S25}:∀ (a b:List (List Int)) (o:List S25),Qr.all k l0 l1 (a++b) o=(Qr.all k l0 l1 a o).bind fun o2=>Qr.all k l0 l1 b o2
 | [],b,o=>rfl
 | x::a,b,o=>by
  simp only [List.cons_append,Qr.all,Option.bind_assoc]
  congr 1
  funext o2
  exact all_append a b o2
theorem qmJ (out:List S25) (mix:List Int):(Qr.wide out mix).length=min out.length mix.length:=by simp [Qr.wide]
theorem qiM {k:Nat} {l0:List (List S25)} {l1:List S25} {R:Nat}:∀ (a:List (List Int)) (o r:List S25),(∀ x∈a,x.length=R)→(o=[]∨o.length=R)→Qr.all k l0 l1 a o=some r→r=[]∨r.length=R
 | [],o,r,_,ho,h=>by
  injection h with h
  rw [← h]
  exact ho
 | x::a,o,r,ha,ho,h=>by
  obtain ⟨o2,h1,h2⟩:=Option.bind_eq_some_iff.1 h
  refine qiM a o2 r (fun y hy=>ha y (List.mem_cons_of_mem _ hy)) ?_ h2
  obtain ⟨b,_,h3⟩:=Option.map_eq_some_iff.1 h1
  have hx:=ha x List.mem_cons_self
  cases b with
  | false=>rw [← h3];exact ho
  | true =>
   rw [← h3,if_pos rfl,qmJ]
   right
   by_cases hz:o=[]
   · rw [if_pos hz,List.length_map];omega
   · rw [if_neg hz];have:=ho.resolve_left hz;omega
theorem qd2:∀ (m:Nat) (left:Int) (b x:List Int),x∈G2 m left b→x.length=b.length+m+1
 | 0,left,b,x,h=>by
  rw [G2,List.mem_singleton] at h
  simp [h]
 | m+1,left,b,x,h=>by
  rw [G2] at h
  obtain ⟨n,_,h⟩:=List.mem_flatMap.1 h
  have:=qd2 m _ _ x h
  simp at this
  omega
theorem KO {Bl B:Nat} {W W1:World} (hb:Below W.heap.size W W1):KeepsFrom Bl W W1∧Zo B W W1 :=
 ⟨⟨hb.size,fun k o _ hk _=>(hb.block k (Array.getElem?_eq_some_iff.1 hk).1).trans hk⟩,⟨hb.size,fun b cs t _ _ hk=>(hb.block b (Array.getElem?_eq_some_iff.1 hk).1).trans hk⟩⟩
theorem ShI.same {w:World} {k:Nat} {l0:List (List S25)} {l1:List S25} {A0 A1:Option Addr} {c0 c1 lb hb ob B:Nat} {pre:List (List Int)} {x:List Int} {W W1:World} (h:ShI w k l0 l1 A0 c0 A1 c1 lb hb ob B pre W)
  (hbl:Below W.heap.size W W1) (hx:∀ out,Qr.all k l0 l1 pre []=some out→Qr.all k l0 l1 (pre++[x]) []=some out):ShI w k l0 l1 A0 c0 A1 c1 lb hb ob B (pre++[x]) W1:=by
 obtain ⟨v,out,h1,h2,h3,h4⟩:=h.ex
 exact ⟨⟨v,out,hx out h1,Qp h2 hbl,Kd.R_below h3 hbl,h4⟩,h.bx.keep hbl,Qp h.lo hbl,Qp h.hi hbl,Nat.le_trans h.sz hbl.size⟩
structure ShO (w:World) (A0:Option Addr) (c0 n0:Nat) (A1:Option Addr) (c1 n1 lb hb ob B:Nat) (Ax:Option Addr) (x:List Int) (W z:World) (o:List S25):Prop where
 kf:KeepsFrom (B+1) W z
 kr:Zo B W z
 bx:KR w A0 c0 n0 A1 c1 n1 z
 lo:z.heap[lb]? = some (.cells #[.func (.func 68) #[] #[]] 104 (0,0))
 hi:z.heap[hb]? = some (.cells #[.func (.func 69) #[] #[]] 104 (0,0))
 ex:∃ v,z.heap[ob]? = some (.cells #[v] 32 (0,0))∧Kd.R k25 25 z B (fun _=>True) v o∧(v = .slice none 0 0↔o=[])
 cx:Kd.C (Kd.int .i64) z Ax x.length x
 sz:B≤z.heap.size
theorem JN {W W1:World} {B:Nat} {v:Value} {o:List S25} (hr:Kd.R k25 25 W B (fun _=>True) v o) (hg:W.grownBy W1 v.ownBlock) {g t:Nat} {cs:Array Value} (ht:t≠25) (h:W.heap[g]? = some (.cells cs t (0,0))):W1.heap[g]? = some (.cells cs t (0,0)) :=
 (hg.block g (Array.getElem?_eq_some_iff.1 h).1 (fun e=>by
  obtain ⟨cells,hc⟩:=Oj hr.2.choose_spec.1 g e.symm
  rw [h] at hc
  injection hc with hc
  injection hc with _ hc
  exact ht hc)).trans h
theorem ShO.app {w:World} {A0 A1 Ax:Option Addr} {c0 n0 c1 n1 lb:Nat} {x:List Int} {W z z3:World} {o o2:List S25} {v v3:Value} (h:ShO w A0 c0 n0 A1 c1 n1 lb (lb+1) (lb+2) (lb+3) Ax x W z o) (hwl:w.heap.size+2≤lb)
  (hb:z.heap[lb+2]? = some (.cells #[v] 32 (0,0))) (hr:Kd.R k25 25 z (lb+3) (fun _=>True) v o) (hg:z.grownBy z3 v.ownBlock) (hr3:Kd.R k25 25 z3 (lb+3) (fun _=>True) v3 o2) (hv:v3 = .slice none 0 0↔o2=[])
  {nx cx:Nat} (hrow:Kd.R (Kd.int .i64) 3 W (lb+3) (fun _=>True) (.slice Ax nx cx) x):ShO w A0 c0 n0 A1 c1 n1 lb (lb+1) (lb+2) (lb+3) Ax x W (z3.setCell ⟨lb+2,0,none⟩ v3) o2:=by
 have hb3:=JN hr hg (by decide) hb
 have hbk:Below (lb+3) z z3:=(Below.refl _ z).grown hg h.sz (fun k e=>(Kd.R_bound hr).1 k e |>.2.1)
 have hof:∀ (k:Nat) (ob:Obj),ob.isCells=false→z.heap[k]? = some ob→(z3.setCell ⟨lb+2,0,none⟩ v3).heap[k]? = some ob:=fun k ob hob hk=>by
  refine (Below.heap_setCell z3 ⟨lb+2,0,none⟩ v3 k (fun e => ?_)).trans ((hg.block k (Array.getElem?_eq_some_iff.1 hk).1 (fun e => ?_)).trans hk)
  · have e2:k=lb+2:=e;rw [e2,hb] at hk;cases hk;cases hob
  · obtain ⟨cells,hc⟩:=Oj hr.2.choose_spec.1 k e.symm;rw [hk] at hc;cases hc;cases hob
 have hsz:(z3.setCell ⟨lb+2,0,none⟩ v3).heap.size=z3.heap.size:=by simp
 have kr':Zo (lb+3) W (z3.setCell ⟨lb+2,0,none⟩ v3):=⟨Nat.le_trans h.kr.size (by rw [hsz];exact hg.size),fun b cs t hb1 ht hk=>(Below.heap_setCell z3 ⟨lb+2,0,none⟩ v3 b (fun e=>by have e2:b=lb+2:=e;omega)).trans (JN hr hg ht (h.kr.same b cs t hb1 ht hk))⟩
 refine ⟨⟨Nat.le_trans h.kf.size (by rw [hsz];exact hg.size),fun k ob hk1 hk hob=>hof k ob hob (h.kf.same k ob hk1 hk hob)⟩,kr',
  ⟨Qx (JN hr hg (by decide) h.bx.b2) (p:=⟨lb+2,0,none⟩) (by simp;omega) _,Qx (JN hr hg (by decide) h.bx.b3) (p:=⟨lb+2,0,none⟩) (by simp;omega) _,Q8 (h.bx.below.trans (hbk.mono (by omega))) (by omega)⟩,
  Qx (JN hr hg (by decide) h.lo) (p:=⟨lb+2,0,none⟩) (by simp) _,Qx (JN hr hg (by decide) h.hi) (p:=⟨lb+2,0,none⟩) (by simp) _,
  ⟨v3,QG hb3 0 _ rfl,Kd.R_mono (Kd.R_far (p:=⟨lb+2,0,none⟩) (Kd.R_types hr3 hb3 (by decide)) (fun _ hk=>hk.2) _) (fun _ _=>trivial),hv⟩,(Kd.R_reads' (qbX hrow kr')).2.2,by rw [hsz];exact Nat.le_trans h.sz hg.size⟩
theorem qoB:(Try.prog.info? 25).map (·.size)=some 2∧True:=⟨by
 have h:=qhy
 cases hi:Try.prog.info? 25 with
 | none=>rw [hi] at h;simp at h
 | some i=>rw [hi] at h;simp at h;simp [h.2.1],trivial⟩
theorem ShO.put {w:World} {A0 A1 Ax:Option Addr} {c0 n0 c1 n1 lb:Nat} {x:List Int} {W z z3:World} {o o1 o2:List S25} {go n cap:Nat} (h:ShO w A0 c0 n0 A1 c1 n1 lb (lb+1) (lb+2) (lb+3) Ax x W z o1) (hwl:w.heap.size+2≤lb)
  (hb:z.heap[lb+2]? = some (.cells #[.slice (some ⟨go,0,none⟩) n cap] 32 (0,0))) (hr:Kd.R k25 25 z (lb+3) (fun _=>True) (.slice (some ⟨go,0,none⟩) n cap) o) (hg:z.grownBy z3 (some go)) (hr3:Kd.R k25 25 z3 (lb+3) (fun _=>True) (.slice (some ⟨go,0,none⟩) n cap) o2) (hv:o2≠[])
  {nx cx:Nat} (hrow:Kd.R (Kd.int .i64) 3 W (lb+3) (fun _=>True) (.slice Ax nx cx) x):ShO w A0 c0 n0 A1 c1 n1 lb (lb+1) (lb+2) (lb+3) Ax x W z3 o2:=by
 have hg':z.grownBy z3 (Value.slice (some ⟨go,0,none⟩) n cap).ownBlock:=hg
 have hbk:Below (lb+3) z z3:=(Below.refl _ z).grown hg' h.sz (fun k e=>(Kd.R_bound hr).1 k e |>.2.1)
 have hof:∀ (k:Nat) (ob:Obj),ob.isCells=false→z.heap[k]? = some ob→z3.heap[k]? = some ob:=fun k ob hob hk=>by
  refine (hg'.block k (Array.getElem?_eq_some_iff.1 hk).1 (fun e => ?_)).trans hk
  obtain ⟨cells,hc⟩:=Oj hr.2.choose_spec.1 k e.symm
  rw [hk] at hc
  cases hc
  cases hob
 have kr':Zo (lb+3) W z3:=⟨Nat.le_trans h.kr.size hg.size,fun b cs t hb1 ht hk=>JN hr hg' ht (h.kr.same b cs t hb1 ht hk)⟩
 refine ⟨⟨Nat.le_trans h.kf.size hg.size,fun k ob hk1 hk hob=>hof k ob hob (h.kf.same k ob hk1 hk hob)⟩,kr',
  ⟨JN hr hg' (by decide) h.bx.b2,JN hr hg' (by decide) h.bx.b3,?_⟩,JN hr hg' (by decide) h.lo,JN hr hg' (by decide) h.hi,
  ⟨_,JN hr hg' (by decide) hb,hr3,⟨fun e=>(by cases e),fun e=>absurd e hv⟩⟩,(Kd.R_reads' (qbX hrow kr')).2.2,Nat.le_trans h.sz hg.size⟩
 exact h.bx.below.trans (hbk.mono (by omega))
theorem qki (R:Int) (w:World):Calls Try.prog 70 #[.int .i64 R] w fun e w'=>e = .returned (.func (.func 95) #[] #[.pointer (some ⟨w.heap.size,0,none⟩)])∧w'=w.alloc (.cells #[.int .i64 R] 3):=by
 go_enter Try.func70,Try.ntmps70
 go_wp2
 go_ret
 exact ⟨rfl,rfl⟩
set_option maxHeartbeats 8000000 in
set_option maxRecDepth 100000 in
theorem Qr.calls (k:Nat) (A0:Option Addr) (c0:Nat) (l0:List (List S25)) (A1:Option Addr) (c1:Nat) (l1:List S25) (r1:List S25) (r2:Int) (w:World) (hr0:Kd.C (Kd.slice 25 k25) w A0 l0.length l0) (hc0:l0.length≤c0) (hr1:Kd.C k25 w A1 l1.length l1) (hc1:l1.length≤c1) (h:Qr.f k l0 l1=some (r1,r2)) :
  Calls Try.prog 22 #[.slice A0 l0.length c0,.slice A1 l1.length c1] w fun e w' => ∃ v0_,e = .returned (.tuple #[v0_,.int .i64 r2])∧Kd.V k25 25 w' w.heap.size (fun k_=>w.heap.size≤k_) v0_ r1∧Below w.heap.size w w':=by
 refine (callsIn_wide (n:=3)).1 ?_
 have hmix:Try.prog.follows .mixedOrders=true:=by kernel_rfl
 unfold Qr.f at h
 obtain ⟨b0,hb0,h⟩:=Option.bind_eq_some_iff.1 h
 obtain ⟨b1,hb1,h⟩:=Option.bind_eq_some_iff.1 h
 obtain ⟨ok,hok,h⟩:=Option.bind_eq_some_iff.1 h
 have HR0:=Q0.mk hr0
 have HC0:=Q0.mk hc0
 have HR1:=Q0.mk hr1
 have HC1:=Q0.mk hc1
 have HH:=Q0.mk h
 have HB0:=Q0.mk hb0
 have HB1:=Q0.mk hb1
 have HOK:=Q0.mk hok
 clear hr0 hc0 hr1 hc1 h hb0 hb1 hok
 refine callsIn_of_wp_marks Try.func22 rfl trivial ?_ rfl
 simp only [Try.ntmps22,List.size_toArray,List.length_cons,List.length_nil,Nat.reduceAdd,Nat.reduceSub,Array.replicate_succ,Array.replicate_zero,List.push_toArray,List.append_toArray,List.nil_append,List.cons_append]
 gi_wp2
 apply qil
 have HX:=Q0.mk (show KR w A0 c0 l0.length A1 c1 l1.length ((w.alloc (.cells #[.slice A0 l0.length c0] 31)).alloc (.cells #[.slice A1 l1.length c1] 32)) from
  ⟨(Below.heap_alloc _ _ _ (by simp)).trans (World.alloc_heap_new w _),by have:=World.alloc_heap_new (w.alloc (.cells #[.slice A0 l0.length c0] 31)) (.cells #[.slice A1 l1.length c1] 32);rwa [World.size_alloc] at this,Q2 (Q2 (Below.refl _ _) _) _⟩)
 have HLEN:=Q0.mk (show ok=true→1≤l0.length∧l0.length≤3 from fun e=>by
  have h1:=HOK.out
  rw [e] at h1
  have h2:=qjD h1
  have h3:=HB1.out
  rw [h2] at h3
  have h4:b0=true:=by
   cases b0 with
   | true=>rfl
   | false=>simp at h3
  have h5:=HB0.out
  rw [h4] at h5
  have h6:=qg5 h5
  omega)
 gi_upto_region 1 with (fail)
 gi_cut [6] from 19 (fun v6 wc=>v6 = .bool b1∧Q0 (KR w A0 c0 l0.length A1 c1 l1.length wc))
 case first =>
  cases b0 with
  | false =>
   obtain rfl:b1=false:=by have:=HB1.out;simpa using this.symm
   gi_wp2_with (first|(refine ⟨trivial,(callsIn_wide.2 (Qt.calls _ _ _ false _ HB0.out)).mono ?_⟩;rintro e w' ⟨rfl,⟨nd,rfl⟩⟩)|(refine ⟨trivial,?_⟩))
   gi_meet
   case rel=>exact ⟨rfl,⟨HX.out.drew nd⟩⟩
  | true =>
   have HA1:=Q0.mk (show QE.f k l1 (l1.length:Int)=some b1 from HB1.out)
   gi_wp2_with (first|(refine ⟨trivial,(callsIn_wide.2 (Qt.calls _ _ _ true _ HB0.out)).mono ?_⟩;rintro e w' ⟨rfl,⟨nd,rfl⟩⟩)|(refine ⟨trivial,(callsIn_wide.2 (QE.calls k A1 c1 l1 (l1.length:Int) b1 _ ?hx HC1.out HA1.out)).mono ?_⟩;(case hx=>exact Kd.C_below HR1.out (HX.out.drew nd).below);rintro e w' ⟨rfl,hbb⟩))
   gi_meet
   case rel=>exact ⟨rfl,⟨(HX.out.drew nd).keep hbb⟩⟩
 case rest =>
  clear HX HB0 HB1
  obtain ⟨rfl,HX⟩:=hcut
  have hcz2:wc.cell? ⟨w.heap.size,0,none⟩=some (.slice A0 l0.length c0):=(Q9 HX.out.b2 0).trans rfl
  gi_wp2
  gi_loopg [6,30] l0.length (fun d v6 v30 wr => ∃ (b:Bool) (i:Nat),v6 = .bool b∧v30 = .int .i64 (i:Int)∧Q0 (i+d=l0.length)∧Q0 (Qr.sg k (l1.length:Int) (l0.drop i) b=some ok)∧Q0 (KR w A0 c0 l0.length A1 c1 l1.length wr))
  case atStart=>exact ⟨b1,0,rfl,rfl,⟨by omega⟩,⟨by simpa using HOK.out⟩,HX⟩
  case round =>
   clear hcz2 HX
   obtain ⟨b,i,rfl,rfl,HD,HS,HX⟩:=hrel
   have hmx:l0.length≤9223372036854775807:=HR0.out.2.1
   by_cases hi:i<l0.length
   ·
    obtain ⟨d,rfl⟩:∃ d,gk=d+1:=⟨gk-1,by have:=HD.out;omega⟩;have qqL:wr.cell? ⟨w.heap.size+1,0,none⟩=some (.slice A1 l1.length c1):=(Q9 HX.out.b3 0).trans rfl;obtain ⟨ad,A2,c2,ea,hx,hc2,hr2⟩:=qcX HR0.out (i:Int) (by omega) (by omega);subst ea;replace hx:=(HX.out.below.cell (World.block_lt_of_cell? w _ hx)).trans hx;rw [Int.toNat_natCast] at hx
    have hdrop:l0.drop i=Yx l0 i::l0.drop (i+1):=by
     rw [List.drop_eq_getElem_cons hi]
     congr 1
     simp [Yx,List.getD_eq_getElem?_getD,List.getElem?_eq_getElem hi]
    have HS2:=Q0.mk (show Qr.sg k (l1.length:Int) (Yx l0 i::l0.drop (i+1)) b=some ok by rw [← hdrop];exact HS.out);have HCA:=Q0.mk hr2;have HC2:=Q0.mk hc2;clear hdrop hr2 hc2
    cases b with
    | false =>
     gi_wp2_with (refine ⟨trivial,?_⟩)
     gi_roundg d
     case measure=>omega
     case rel=>exact ⟨false,i+1,rfl,by simp,⟨by have:=HD.out;omega⟩,⟨by have:=HS2.out;simpa [Qr.sg] using this⟩,HX⟩
    | true =>
     obtain ⟨b3,h3,h4⟩:=Option.bind_eq_some_iff.1 (show (QE.f k (Yx l0 i) (l1.length:Int)).bind (fun b=>Qr.sg k (l1.length:Int) (l0.drop (i+1)) b)=some ok by have:=HS2.out;simpa [Qr.sg] using this);have HS3:=Q0.mk h3;have HS4:=Q0.mk h4;clear h3 h4
     gi_wp2_with (refine ⟨trivial,(callsIn_wide.2 (QE.calls k A2 c2 (Yx l0 i) (l1.length:Int) b3 _ ?hx HC2.out HS3.out)).mono ?_⟩;(case hx=>exact Kd.C_below HCA.out HX.out.below);rintro e w' ⟨rfl,hbb⟩)
     gi_roundg d
     case measure=>omega
     case rel=>exact ⟨b3,i+1,rfl,by simp,⟨by have:=HD.out;omega⟩,⟨HS4.out⟩,⟨HX.out.keep hbb⟩⟩
   ·
    have HE:=Q0.mk (show some b=some ok by have:=HS.out;rw [List.drop_eq_nil_of_le (by omega)] at this;exact this);clear HS;obtain rfl:b=ok:=Option.some.inj HE.out;clear HE
    cases b with
    | false =>
     have HF:=HH.out;rw [if_neg (by decide)] at HF
     injection HF with HF
     injection HF with e1 e2
     subst e1 e2
     gi_wp2
     simp only [Exit.noGoto];refine ⟨_,results_tmp2 rfl _ _ _,?_⟩
     exact ⟨_,rfl,Kd.V_nil _ _ _ _ _,HX.out.below⟩
    | true =>
     have HF:=HH.out;rw [if_pos rfl] at HF;have HF:=Q0.mk HF;clear HH
     gi_wp2
     apply wpIn_label
     obtain ⟨lb,hlb⟩:∃ lb,wr.heap.size=lb:=⟨_,rfl⟩;obtain ⟨W0,hW0⟩:∃ W0,((wr.alloc (.cells #[.func (.func 68) #[] #[]] 104)).alloc (.cells #[.func (.func 69) #[] #[]] 104)).alloc (.cells #[.slice none 0 0] 32)=W0:=⟨_,rfl⟩
     have hwlb:w.heap.size≤lb:=by rw [← hlb];exact HX.out.below.size
     have qp7:w.heap.size+2≤lb:=by have:=QT HX.out.b3;omega
     have hs0:W0.heap.size=lb+3:=by rw [← hW0,← hlb];simp
     have hB0:Below wr.heap.size wr W0:=by rw [← hW0];exact Q2 (Q2 (Q2 (Below.refl _ _) _) _) _
     have hX0:=HX.out.keep hB0
     have hlo0:W0.heap[lb]? = some (.cells #[.func (.func 68) #[] #[]] 104 (0,0)):=by
      rw [← hW0,← hlb];exact (Below.heap_alloc _ _ _ (by simp;omega)).trans ((Below.heap_alloc _ _ _ (by simp)).trans (World.alloc_heap_new wr _))
     have hhi0:W0.heap[lb+1]? = some (.cells #[.func (.func 69) #[] #[]] 104 (0,0)):=by
      rw [← hW0,← hlb];refine (Below.heap_alloc _ _ _ (by simp)).trans ?_;have:=World.alloc_heap_new (wr.alloc (.cells #[.func (.func 68) #[] #[]] 104)) (.cells #[.func (.func 69) #[] #[]] 104);rwa [World.size_alloc] at this
     have quW:W0.heap[lb+2]? = some (.cells #[.slice none 0 0] 32 (0,0)):=by
      rw [← hW0,← hlb];have:=World.alloc_heap_new ((wr.alloc (.cells #[.func (.func 68) #[] #[]] 104)).alloc (.cells #[.func (.func 69) #[] #[]] 104)) (.cells #[.slice none 0 0] 32);rwa [World.size_alloc,World.size_alloc] at this
     rw [hW0,show wr.heap.size+1+1=lb+2 by omega,show wr.heap.size+1=lb+1 by omega,hlb];have HI0:=Q0.mk (show ShI w k l0 l1 A0 c0 A1 c1 lb (lb+1) (lb+2) (lb+3) [] W0 from ⟨⟨_,[],rfl,quW,Kd.R_nil _ _ _ _ _,by simp⟩,hX0,hlo0,hhi0,by omega⟩);have hcz2:W0.cell? ⟨w.heap.size,0,none⟩=some (.slice A0 l0.length c0):=(Q9 hX0.b2 0).trans rfl;clear hX0 hlo0 hhi0 quW hB0 HX hW0
     gi_wp2_with (refine ⟨trivial,(callsIn_wide.2 (qki _ _)).mono ?_⟩;rintro e w' ⟨rfl,rfl⟩)
     obtain ⟨hR1,hR3⟩:=(by simpa using HLEN.out)
     have hrb:(W0.alloc (.cells #[.int .i64 (l0.length:Int)] 3)).heap[lb+3]? = some (.cells #[.int .i64 (l0.length:Int)] 3 (0,0)):=by
      rw [← hs0];exact World.alloc_heap_new W0 _
     have hs1:(W0.alloc (.cells #[.int .i64 (l0.length:Int)] 3)).heap.size=lb+4:=by simp;omega
     refine qe2 (p:=49) (q:=12) (gf:=95) (lb:=#[.pointer (some ⟨lb+3,0,none⟩)]) (B:=lb+3) (xs:=G2 (l0.length-1) 100 []) rfl (enters_of Try.func95 (by kernel_rfl) rfl)
      (qdC _ l0.length (lb+3) (lb+3) _ hR1 hR3 (Nat.le_refl _) hrb) (Below.refl _ _) (ShI w k l0 l1 A0 c0 A1 c1 lb (lb+1) (lb+2) (lb+3)) ?hI ?hI0 ?h0 ?assign ?body ?done
     case hI=>exact fun pre W1 W2 row h hg hr=>h.step hg (fun r e=>⟨by have:=(hr r e).1;omega,(hr r e).2⟩)
     case hI0 =>
      intro W1 W2 row h hg hr;obtain ⟨v,out,h1,h2,h3,h4⟩:=h.ex;obtain rfl:[]=out:=Option.some.inj h1;obtain rfl:=h4.2 rfl
      have kp:∀ g o,g<lb+4→W1.heap[g]? = some o→W2.heap[g]? = some o:=fun g o hg2 ho=>(hg.block g (Array.getElem?_eq_some_iff.1 ho).1 (fun e=>by have:=hr g e.symm;omega)).trans ho
      exact ⟨⟨_,[],rfl,kp _ _ (by omega) h2,Kd.R_nil _ _ _ _ _,by simp⟩,⟨kp _ _ (by omega) h.bx.b2,kp _ _ (by omega) h.bx.b3,h.bx.below.grown hg h.bx.below.size (fun r e=>by have:=hr r e;omega)⟩,kp _ _ (by omega) h.lo,kp _ _ (by omega) h.hi,Nat.le_trans h.sz hg.size⟩
     case h0=>exact HI0.out.step (World.grownBy_alloc _ _ none) (fun r e=>by cases e)
     case assign =>
      intro l v W K hK
      gi_wp2
      exact hK
     case body =>
      intro l pre v x W hI hpre hrow
      have hlen:∀ y∈pre++[x],y.length=l0.length:=fun y hy=>by
       have:=qd2 _ _ _ _ (hpre.subset hy)
       simp at this
       omega
      have hxl:x.length=l0.length:=hlen x (by simp);obtain ⟨Ax,cx,rfl,hcx,hCx⟩:=Kd.R_reads hrow;obtain ⟨vo,out,h1,h2,h3,h4⟩:=hI.ex;have hout:out=[]∨out.length=l0.length:=qiM pre [] out (fun y hy=>hlen y (by simp [hy])) (.inl rfl) h1
      obtain ⟨bb,hag,hst⟩:∃ bb,Qr.ag k l0 l1 x l1.length 0=some bb∧Qr.all k l0 l1 (pre++[x]) []=some (if bb then Qr.wide (if out=[] then x.map (fun n=>⟨n,n⟩) else out) x else out):=by
       obtain ⟨ys,hys⟩:=hpre;have hF:=HF.out;rw [← hys,all_append,all_append,h1] at hF
       cases hs:Qr.st k l0 l1 out x with
       | none=>simp [Qr.all,hs] at hF
       | some o =>
        obtain ⟨bb,hb1,hb2⟩:=Option.map_eq_some_iff.1 hs;refine ⟨bb,hb1,?_⟩;rw [all_append,h1];simp only [Option.bind_some,Qr.all,hs,← hb2]
      have HI:=Q0.mk hI;have HAG:=Q0.mk hag;have HST:=Q0.mk hst;have HOUT:=Q0.mk hout;have HROW:=Q0.mk hrow;have HCX:=Q0.mk hCx;have HN:=Q0.mk h4;have HR3:=Q0.mk h3;have HBO:=Q0.mk h2;have HALL:=Q0.mk h1
      have hmxx:x.length≤3:=by omega
      have HXL:=Q0.mk hxl;clear hI hag hst hout hrow hCx h4 h3 h2 h1 HF hpre hlen hxl;simp only [List.setIfInBounds_toArray,List.set_cons_succ,List.set_cons_zero];have qqL:W.cell? ⟨w.heap.size+1,0,none⟩=some (.slice A1 l1.length c1):=(Q9 HI.out.bx.b3 0).trans rfl;have qCh:l1.length≤9223372036854775807:=HR1.out.2.1
      gi_wp2
      gi_loopg [52] l1.length (fun d v52 wr => ∃ (i:Nat),v52 = .int .i64 (i:Int)∧Q0 (i+d=l1.length)∧Q0 (Qr.ag k l0 l1 x d (i:Int)=some bb)∧Q0 (Below W.heap.size W wr))
      case atStart=>exact ⟨0,rfl,⟨by omega⟩,HAG,⟨Below.refl _ _⟩⟩
      case round =>
       obtain ⟨i,rfl,HD,HA,HB⟩:=hrel
       by_cases hi:i<l1.length
       ·
        obtain ⟨d,rfl⟩:∃ d,gk=d+1:=⟨gk-1,by have:=HD.out;omega⟩;obtain ⟨ad,ea,hx0,hx1⟩:=ZD HR1.out (i:Int) (by omega) (by omega);subst ea;replace hx0:=(HI.out.bx.below.cell (World.block_lt_of_cell? w _ hx0)).trans hx0;replace hx1:=(HI.out.bx.below.cell (World.block_lt_of_cell? w _ hx1)).trans hx1;replace hx0:=(HB.out.cell (World.block_lt_of_cell? W _ hx0)).trans hx0;replace hx1:=(HB.out.cell (World.block_lt_of_cell? W _ hx1)).trans hx1;rw [Int.toNat_natCast] at hx0 hx1;have Xc:=Try.underlying25
        gi_wp2
        have hww:w.heap.size≤W.heap.size:=HI.out.bx.below.size;have hlbW:lb+3≤W.heap.size:=HI.out.sz;have hWr:W.heap.size≤wr.heap.size:=HB.out.size;obtain ⟨We,hWe⟩:∃ We,wr.alloc (.cells #[.int .i64 (Qo l1 (i:Int)).f0,.int .i64 (Qo l1 (i:Int)).f1] 25)=We:=⟨_,rfl⟩
        have hbe:Below wr.heap.size wr We:=by rw [← hWe];exact Q2 (Below.refl _ _) _
        have h14:We.heap[wr.heap.size]? = some (.cells #[.int .i64 (Qo l1 (i:Int)).f0,.int .i64 (Qo l1 (i:Int)).f1] 25 (0,0)):=by rw [← hWe];exact World.alloc_heap_new wr _
        have hse:We.heap.size=wr.heap.size+1:=by rw [← hWe];simp
        have HBe:=Q0.mk (show Below W.heap.size W We from HB.out.trans (hbe.mono hWr))
        have hSb:∀ z:World,Below We.heap.size We z→(fun z=>z.cell? ⟨lb,0,none⟩=some (.func (.func 68) #[] #[])∧z.cell? ⟨lb+1,0,none⟩=some (.func (.func 69) #[] #[])∧z.cell? ⟨w.heap.size,0,none⟩=some (.slice A0 l0.length c0)∧z.cell? ⟨wr.heap.size,0,none⟩=some (.int .i64 (Qo l1 (i:Int)).f0)∧z.cell? ⟨wr.heap.size,1,none⟩=some (.int .i64 (Qo l1 (i:Int)).f1)) z:=fun z hz=>by
         have hbz:Below W.heap.size W z:=HBe.out.trans (hz.mono (by omega))
         exact ⟨(Q9 (Qp HI.out.lo hbz) 0).trans rfl,(Q9 (Qp HI.out.hi hbz) 0).trans rfl,(Q9 (Qp HI.out.bx.b2 hbz) 0).trans rfl,(Q9 (Qp h14 hz) 0).trans rfl,(Q9 (Qp h14 hz) 1).trans rfl⟩
        have hS:(fun z=>z.cell? ⟨lb,0,none⟩=some (.func (.func 68) #[] #[])∧z.cell? ⟨lb+1,0,none⟩=some (.func (.func 69) #[] #[])∧z.cell? ⟨w.heap.size,0,none⟩=some (.slice A0 l0.length c0)∧z.cell? ⟨wr.heap.size,0,none⟩=some (.int .i64 (Qo l1 (i:Int)).f0)∧z.cell? ⟨wr.heap.size,1,none⟩=some (.int .i64 (Qo l1 (i:Int)).f1)) We.drew:=hSb We.drew (Yu (Below.refl _ _));rw [hWe];clear hx0 hx1 qqL
        obtain ⟨lo,hlo1,hlo2⟩:=Option.bind_eq_some_iff.1 (show (QL.f k 0 x l0 (i:Int)).bind (fun lo=>if wrap64 (100*(Qo l1 (i:Int)).f1)<lo then some false else
   (QI.f k 0 x l0 (i:Int)).bind fun hi=>if hi<wrap64 (100*(Qo l1 (i:Int)).f0) then some false else Qr.ag k l0 l1 x d ((i:Int)+1))=some bb from HA.out)
        have HLO:=Q0.mk hlo1;clear hlo1 HA;obtain ⟨qh,hqh⟩:∃ q,IntKind.i64.wrap (100*(Qo l1 (i:Int)).f1)=q:=⟨_,rfl⟩;obtain ⟨ql,hql⟩:∃ q,IntKind.i64.wrap (100*(Qo l1 (i:Int)).f0)=q:=⟨_,rfl⟩;rw [← Qk,← Qk,hqh,hql] at hlo2
        by_cases cc:qh<lo
        ·
         obtain rfl:false=bb:=by rw [if_pos cc] at hlo2;exact Option.some.inj hlo2
         clear hlo2;have ccb:decide (qh<lo)=true:=decide_eq_true cc;clear cc;refine OR hmix ?hno1 (by kernel_rfl) ?_
         case hno1=>rintro ⟨a,w,h⟩;exact h
         refine wpAny_of_held (S:=(fun z=>z.cell? ⟨lb,0,none⟩=some (.func (.func 68) #[] #[])∧z.cell? ⟨lb+1,0,none⟩=some (.func (.func 69) #[] #[])∧z.cell? ⟨w.heap.size,0,none⟩=some (.slice A0 l0.length c0)∧z.cell? ⟨wr.heap.size,0,none⟩=some (.int .i64 (Qo l1 (i:Int)).f0)∧z.cell? ⟨wr.heap.size,1,none⟩=some (.int .i64 (Qo l1 (i:Int)).f1))) _ _ _ _ ?_;change wpAnyH _ _ _ _ _ _ _ _ (World.drew _);refine wpAnyH_take (i:=0) (oi:={ dst:=some 57,op:=_,type:=_,pos:=_,after:=_,guard:=_ }) (v:=?vx2) rfl (by kernel_rfl) (by kernel_rfl) (by kernel_rfl) (fun _ _ _ h=>h) (Or.inl ⟨by rfl,?hyx2⟩) hS ?restx2
         case hyx2 =>
          intro z hz;obtain ⟨z1,z2,z3,z4,z5⟩:=hz;go_simp
          try (with_reducible rfl)
         simp only [Qf,Qb,Qe,Qd,Qc];refine wpAnyH_take (i:=1) (oi:={ dst:=some 58,op:=_,type:=_,pos:=_,after:=_,guard:=_ }) (v:=?vx3) rfl (by kernel_rfl) (by kernel_rfl) (by kernel_rfl) (fun _ _ _ h=>h) (Or.inl ⟨by rfl,?hyx3⟩) hS ?restx3
         case hyx3 =>
          intro z hz;obtain ⟨z1,z2,z3,z4,z5⟩:=hz;go_simp
          try (with_reducible rfl)
         simp only [Qf,Qb,Qe,Qd,Qc];refine wpAnyH_take (i:=2) (oi:={ dst:=some 59,op:=_,type:=_,pos:=_,after:=_,guard:=_ }) (v:=?vx4) rfl (by kernel_rfl) (by kernel_rfl) (by kernel_rfl) (fun _ _ _ h=>h) (Or.inl ⟨by rfl,?hyx4⟩) hS ?restx4
         case hyx4 =>
          intro z hz;obtain ⟨z1,z2,z3,z4,z5⟩:=hz;go_simp
          try (with_reducible rfl)
         simp only [Qf,Qb,Qe,Qd,Qc];refine wpAnyH_take (i:=3) (oi:={ dst:=some 60,op:=_,type:=_,pos:=_,after:=_,guard:=_ }) (v:=?vx5) rfl (by kernel_rfl) (by kernel_rfl) (by kernel_rfl) (fun _ _ _ h=>h) (Or.inl ⟨by rfl,?hyx5⟩) hS ?restx5
         case hyx5 =>
          intro z hz;obtain ⟨z1,z2,z3,z4,z5⟩:=hz;go_simp
          try (with_reducible rfl)
         simp only [Qf,Qb,Qe,Qd,Qc];refine wpAnyH_take (i:=5) (oi:={ dst:=some 62,op:=_,type:=_,pos:=_,after:=_,guard:=_ }) (v:=?vx6) rfl (by kernel_rfl) (by kernel_rfl) (by kernel_rfl) (fun _ _ _ h=>h) (Or.inl ⟨by rfl,?hyx6⟩) hS ?restx6
         case hyx6 =>
          intro z hz;obtain ⟨z1,z2,z3,z4,z5⟩:=hz;go_simp
          try (with_reducible rfl)
         simp only [Qf,Qb,Qe,Qd,Qc];refine wpAnyH_take (i:=6) (oi:={ dst:=some 63,op:=_,type:=_,pos:=_,after:=_,guard:=_ }) (v:=?vx7) rfl (by kernel_rfl) (by kernel_rfl) (by kernel_rfl) (fun _ _ _ h=>h) (Or.inl ⟨by rfl,?hyx7⟩) hS ?restx7
         case hyx7 =>
          intro z hz;obtain ⟨z1,z2,z3,z4,z5⟩:=hz;go_simp
          try (with_reducible rfl)
         simp only [Qf,Qb,Qe,Qd,Qc];refine wpAnyH_take (i:=7) (oi:={ dst:=some 64,op:=_,type:=_,pos:=_,after:=_,guard:=_ }) (v:=?vx8) rfl (by kernel_rfl) (by kernel_rfl) (by kernel_rfl) (fun _ _ _ h=>h) (Or.inl ⟨by rfl,?hyx8⟩) hS ?restx8
         case hyx8 =>
          intro z hz;obtain ⟨z1,z2,z3,z4,z5⟩:=hz;go_simp
          try (with_reducible rfl)
         simp only [Qf,Qb,Qe,Qd,Qc];refine wpAnyH_ready (rs:=[4]) (by kernel_rfl) (by simp) ?_;refine AllReadyH.cons (o:={ dst:=some 61,op:=.call { callee:=.value (.func 71),args:=#[.tmp 57,.tmp 58,.tmp 59,.tmp 60],argTypes:=#[104,37,31,3] },type:=3,pos:=_,after:=_,guard:=none }) rfl (fun K hK => ?_) AllReadyH.nil;refine Wg Try.func71 (by kernel_rfl) rfl #[.agg #[.func (.func 68) #[] #[]],.slice Ax x.length cx,.slice A0 l0.length c0,.int .i64 (i:Int)] (by rfl) rfl rfl (by (try simp only [List.map_toArray,List.map_cons,List.map_nil]);first|done|rfl) ?_;refine (QL.calls k 0 Ax cx x A0 c0 l0 (i:Int) lo _ ?q1w18 hcx ?q2w18 HC0.out HLO.out).mono ?_
         case q1w18=>exact Kd.C_below HCX.out (Yu HBe.out)
         case q2w18=>exact Kd.C_below HR0.out (HI.out.bx.below.trans ((Yu HBe.out).mono hww))
         rintro e w1 ⟨rfl,qdB⟩;refine ⟨_,rfl,?_⟩;have qbg:=Q0.mk (show Below W.heap.size W w1 from (Yu HBe.out).trans (qdB.mono (Yu HBe.out).size));have hS1:=(show _ from hSb w1 ((show Below We.heap.size We w1 from (Yu (Below.refl We.heap.size We)).trans (qdB.mono ((Yu (Below.refl We.heap.size We)).size)))));clear hS;refine hK.out _ _ hS1 (fun hS => ?_);simp only [Qf,Qb,Qe,Qd,Qc];refine wpAnyH_take (i:=8) (oi:={ dst:=some 65,op:=_,type:=_,pos:=_,after:=_,guard:=_ }) (v:=?vx9) rfl (by kernel_rfl) (by kernel_rfl) (by kernel_rfl) (fun _ _ _ h=>h) (Or.inl ⟨by rfl,?hyx9⟩) hS ?restx9
         case hyx9 =>
          intro z hz;obtain ⟨z1,z2,z3,z4,z5⟩:=hz;go_simp
          try (with_reducible rfl)
         simp only [Qf,Qb,Qe,Qd,Qc];refine wpAnyH_take (i:=9) (oi:={ dst:=some 66,op:=_,type:=_,pos:=_,after:=_,guard:=_ }) (v:=?vx10) rfl (by kernel_rfl) (by kernel_rfl) (by kernel_rfl) (fun _ _ _ h=>h) (Or.inl ⟨by rfl,?hyx10⟩) hS ?restx10
         case hyx10 =>
          intro z hz;obtain ⟨z1,z2,z3,z4,z5⟩:=hz;go_simp
          try (with_reducible rfl)
         simp only [Qf,Qb,Qe,Qd,Qc];refine wpAnyH_take (i:=10) (oi:={ dst:=some 67,op:=_,type:=_,pos:=_,after:=_,guard:=_ }) (v:=undef) rfl (by kernel_rfl) (by kernel_rfl) (by kernel_rfl) (fun _ _ _ h=>h) (Or.inr ⟨by rfl,rfl⟩) hS ?_;simp only [Qf,Qb,Qe,Qd,Qc];refine wpAnyH_take (i:=11) (oi:={ dst:=some 68,op:=_,type:=_,pos:=_,after:=_,guard:=_ }) (v:=undef) rfl (by kernel_rfl) (by kernel_rfl) (by kernel_rfl) (fun _ _ _ h=>h) (Or.inr ⟨by rfl,rfl⟩) hS ?_;simp only [Qf,Qb,Qe,Qd,Qc];refine wpAnyH_take (i:=12) (oi:={ dst:=some 69,op:=_,type:=_,pos:=_,after:=_,guard:=_ }) (v:=undef) rfl (by kernel_rfl) (by kernel_rfl) (by kernel_rfl) (fun _ _ _ h=>h) (Or.inr ⟨by rfl,rfl⟩) hS ?_;simp only [Qf,Qb,Qe,Qd,Qc];refine wpAnyH_take (i:=13) (oi:={ dst:=some 70,op:=_,type:=_,pos:=_,after:=_,guard:=_ }) (v:=undef) rfl (by kernel_rfl) (by kernel_rfl) (by kernel_rfl) (fun _ _ _ h=>h) (Or.inr ⟨by rfl,rfl⟩) hS ?_;simp only [Qf,Qb,Qe,Qd,Qc];refine wpAnyH_take (i:=14) (oi:={ dst:=some 71,op:=_,type:=_,pos:=_,after:=_,guard:=_ }) (v:=undef) rfl (by kernel_rfl) (by kernel_rfl) (by kernel_rfl) (fun _ _ _ h=>h) (Or.inr ⟨by rfl,rfl⟩) hS ?_;simp only [Qf,Qb,Qe,Qd,Qc];refine wpAnyH_take (i:=15) (oi:={ dst:=some 72,op:=_,type:=_,pos:=_,after:=_,guard:=_ }) (v:=undef) rfl (by kernel_rfl) (by kernel_rfl) (by kernel_rfl) (fun _ _ _ h=>h) (Or.inr ⟨by rfl,rfl⟩) hS ?_;simp only [Qf,Qb,Qe,Qd,Qc];refine wpAnyH_take (i:=16) (oi:={ dst:=some 73,op:=_,type:=_,pos:=_,after:=_,guard:=_ }) (v:=undef) rfl (by kernel_rfl) (by kernel_rfl) (by kernel_rfl) (fun _ _ _ h=>h) (Or.inr ⟨by rfl,rfl⟩) hS ?_;simp only [Qf,Qb,Qe,Qd,Qc];refine wpAnyH_take (i:=17) (oi:={ dst:=some 74,op:=_,type:=_,pos:=_,after:=_,guard:=_ }) (v:=undef) rfl (by kernel_rfl) (by kernel_rfl) (by kernel_rfl) (fun _ _ _ h=>h) (Or.inr ⟨by rfl,rfl⟩) hS ?_;simp only [Qf,Qb,Qe,Qd,Qc];refine wpAnyH_take (i:=18) (oi:={ dst:=some 75,op:=_,type:=_,pos:=_,after:=_,guard:=_ }) (v:=undef) rfl (by kernel_rfl) (by kernel_rfl) (by kernel_rfl) (fun _ _ _ h=>h) (Or.inr ⟨by rfl,rfl⟩) hS ?_;simp only [Qf,Qb,Qe,Qd,Qc];refine wpAnyH_take (i:=19) (oi:={ dst:=some 76,op:=_,type:=_,pos:=_,after:=_,guard:=_ }) (v:=?vx20) rfl (by kernel_rfl) (by kernel_rfl) (by kernel_rfl) (fun _ _ _ h=>h) (Or.inl ⟨by rfl,?hyx20⟩) hS ?restx20
         case hyx20 =>
          intro z hz;obtain ⟨z1,z2,z3,z4,z5⟩:=hz;go_simp
          try (with_reducible rfl)
         simp only [Qf,Qb,Qe,Qd,Qc];refine wpAnyH_done (by kernel_rfl) ?_ _
         gi_wp2
         exact ⟨(KO (Bl:=lb+4) (B:=lb+3) qbg.out).1,(KO (Bl:=lb+4) (B:=lb+3) qbg.out).2,HI.out.same qbg.out (fun o ho=>by rw [HST.out,← ho,HALL.out];rfl)⟩
        ·
         rw [if_neg cc] at hlo2;have ccb:decide (qh<lo)=false:=decide_eq_false cc;clear cc;obtain ⟨hi2,hhi1,hhi2⟩:=Option.bind_eq_some_iff.1 hlo2;have HHI:=Q0.mk hhi1;clear hhi1 hlo2
         by_cases dd:hi2<ql
         ·
          obtain rfl:false=bb:=by rw [if_pos dd] at hhi2;exact Option.some.inj hhi2
          clear hhi2;have ddb:decide (hi2<ql)=true:=decide_eq_true dd;clear dd;refine OR hmix ?hno21 (by kernel_rfl) ?_
          case hno21=>rintro ⟨a,w,h⟩;exact h
          refine wpAny_of_held (S:=(fun z=>z.cell? ⟨lb,0,none⟩=some (.func (.func 68) #[] #[])∧z.cell? ⟨lb+1,0,none⟩=some (.func (.func 69) #[] #[])∧z.cell? ⟨w.heap.size,0,none⟩=some (.slice A0 l0.length c0)∧z.cell? ⟨wr.heap.size,0,none⟩=some (.int .i64 (Qo l1 (i:Int)).f0)∧z.cell? ⟨wr.heap.size,1,none⟩=some (.int .i64 (Qo l1 (i:Int)).f1))) _ _ _ _ ?_;change wpAnyH _ _ _ _ _ _ _ _ (World.drew _);refine wpAnyH_take (i:=0) (oi:={ dst:=some 57,op:=_,type:=_,pos:=_,after:=_,guard:=_ }) (v:=?vx22) rfl (by kernel_rfl) (by kernel_rfl) (by kernel_rfl) (fun _ _ _ h=>h) (Or.inl ⟨by rfl,?hyx22⟩) hS ?restx22
          case hyx22 =>
           intro z hz;obtain ⟨z1,z2,z3,z4,z5⟩:=hz;go_simp
           try (with_reducible rfl)
          simp only [Qf,Qb,Qe,Qd,Qc];refine wpAnyH_take (i:=1) (oi:={ dst:=some 58,op:=_,type:=_,pos:=_,after:=_,guard:=_ }) (v:=?vx23) rfl (by kernel_rfl) (by kernel_rfl) (by kernel_rfl) (fun _ _ _ h=>h) (Or.inl ⟨by rfl,?hyx23⟩) hS ?restx23
          case hyx23 =>
           intro z hz;obtain ⟨z1,z2,z3,z4,z5⟩:=hz;go_simp
           try (with_reducible rfl)
          simp only [Qf,Qb,Qe,Qd,Qc];refine wpAnyH_take (i:=2) (oi:={ dst:=some 59,op:=_,type:=_,pos:=_,after:=_,guard:=_ }) (v:=?vx24) rfl (by kernel_rfl) (by kernel_rfl) (by kernel_rfl) (fun _ _ _ h=>h) (Or.inl ⟨by rfl,?hyx24⟩) hS ?restx24
          case hyx24 =>
           intro z hz;obtain ⟨z1,z2,z3,z4,z5⟩:=hz;go_simp
           try (with_reducible rfl)
          simp only [Qf,Qb,Qe,Qd,Qc];refine wpAnyH_take (i:=3) (oi:={ dst:=some 60,op:=_,type:=_,pos:=_,after:=_,guard:=_ }) (v:=?vx25) rfl (by kernel_rfl) (by kernel_rfl) (by kernel_rfl) (fun _ _ _ h=>h) (Or.inl ⟨by rfl,?hyx25⟩) hS ?restx25
          case hyx25 =>
           intro z hz;obtain ⟨z1,z2,z3,z4,z5⟩:=hz;go_simp
           try (with_reducible rfl)
          simp only [Qf,Qb,Qe,Qd,Qc];refine wpAnyH_take (i:=5) (oi:={ dst:=some 62,op:=_,type:=_,pos:=_,after:=_,guard:=_ }) (v:=?vx26) rfl (by kernel_rfl) (by kernel_rfl) (by kernel_rfl) (fun _ _ _ h=>h) (Or.inl ⟨by rfl,?hyx26⟩) hS ?restx26
          case hyx26 =>
           intro z hz;obtain ⟨z1,z2,z3,z4,z5⟩:=hz;go_simp
           try (with_reducible rfl)
          simp only [Qf,Qb,Qe,Qd,Qc];refine wpAnyH_take (i:=6) (oi:={ dst:=some 63,op:=_,type:=_,pos:=_,after:=_,guard:=_ }) (v:=?vx27) rfl (by kernel_rfl) (by kernel_rfl) (by kernel_rfl) (fun _ _ _ h=>h) (Or.inl ⟨by rfl,?hyx27⟩) hS ?restx27
          case hyx27 =>
           intro z hz;obtain ⟨z1,z2,z3,z4,z5⟩:=hz;go_simp
           try (with_reducible rfl)
          simp only [Qf,Qb,Qe,Qd,Qc];refine wpAnyH_take (i:=7) (oi:={ dst:=some 64,op:=_,type:=_,pos:=_,after:=_,guard:=_ }) (v:=?vx28) rfl (by kernel_rfl) (by kernel_rfl) (by kernel_rfl) (fun _ _ _ h=>h) (Or.inl ⟨by rfl,?hyx28⟩) hS ?restx28
          case hyx28 =>
           intro z hz;obtain ⟨z1,z2,z3,z4,z5⟩:=hz;go_simp
           try (with_reducible rfl)
          simp only [Qf,Qb,Qe,Qd,Qc];refine wpAnyH_ready (rs:=[4]) (by kernel_rfl) (by simp) ?_;refine AllReadyH.cons (o:={ dst:=some 61,op:=.call { callee:=.value (.func 71),args:=#[.tmp 57,.tmp 58,.tmp 59,.tmp 60],argTypes:=#[104,37,31,3] },type:=3,pos:=_,after:=_,guard:=none }) rfl (fun K hK => ?_) AllReadyH.nil;refine Wg Try.func71 (by kernel_rfl) rfl #[.agg #[.func (.func 68) #[] #[]],.slice Ax x.length cx,.slice A0 l0.length c0,.int .i64 (i:Int)] (by rfl) rfl rfl (by (try simp only [List.map_toArray,List.map_cons,List.map_nil]);first|done|rfl) ?_;refine (QL.calls k 0 Ax cx x A0 c0 l0 (i:Int) lo _ ?q1w128 hcx ?q2w128 HC0.out HLO.out).mono ?_
          case q1w128=>exact Kd.C_below HCX.out (Yu HBe.out)
          case q2w128=>exact Kd.C_below HR0.out (HI.out.bx.below.trans ((Yu HBe.out).mono hww))
          rintro e w1 ⟨rfl,qdB⟩;refine ⟨_,rfl,?_⟩;have qbg:=Q0.mk (show Below W.heap.size W w1 from (Yu HBe.out).trans (qdB.mono (Yu HBe.out).size));have hS1:=(show _ from hSb w1 ((show Below We.heap.size We w1 from (Yu (Below.refl We.heap.size We)).trans (qdB.mono ((Yu (Below.refl We.heap.size We)).size)))));clear hS;refine hK.out _ _ hS1 (fun hS => ?_);simp only [Qf,Qb,Qe,Qd,Qc];refine wpAnyH_take (i:=8) (oi:={ dst:=some 65,op:=_,type:=_,pos:=_,after:=_,guard:=_ }) (v:=?vx29) rfl (by kernel_rfl) (by kernel_rfl) (by kernel_rfl) (fun _ _ _ h=>h) (Or.inl ⟨by rfl,?hyx29⟩) hS ?restx29
          case hyx29 =>
           intro z hz;obtain ⟨z1,z2,z3,z4,z5⟩:=hz;go_simp
           try (with_reducible rfl)
          simp only [Qf,Qb,Qe,Qd,Qc];refine wpAnyH_take (i:=9) (oi:={ dst:=some 66,op:=_,type:=_,pos:=_,after:=_,guard:=_ }) (v:=?vx30) rfl (by kernel_rfl) (by kernel_rfl) (by kernel_rfl) (fun _ _ _ h=>h) (Or.inl ⟨by rfl,?hyx30⟩) hS ?restx30
          case hyx30 =>
           intro z hz;obtain ⟨z1,z2,z3,z4,z5⟩:=hz;go_simp
           try (with_reducible rfl)
          simp only [Qf,Qb,Qe,Qd,Qc];refine wpAnyH_take (i:=10) (oi:={ dst:=some 67,op:=_,type:=_,pos:=_,after:=_,guard:=_ }) (v:=?vx31) rfl (by kernel_rfl) (by kernel_rfl) (by kernel_rfl) (fun _ _ _ h=>h) (Or.inl ⟨by rfl,?hyx31⟩) hS ?restx31
          case hyx31 =>
           intro z hz;obtain ⟨z1,z2,z3,z4,z5⟩:=hz;go_simp
           try (with_reducible rfl)
          simp only [Qf,Qb,Qe,Qd,Qc];refine wpAnyH_take (i:=11) (oi:={ dst:=some 68,op:=_,type:=_,pos:=_,after:=_,guard:=_ }) (v:=?vx32) rfl (by kernel_rfl) (by kernel_rfl) (by kernel_rfl) (fun _ _ _ h=>h) (Or.inl ⟨by rfl,?hyx32⟩) hS ?restx32
          case hyx32 =>
           intro z hz;obtain ⟨z1,z2,z3,z4,z5⟩:=hz;go_simp
           try (with_reducible rfl)
          simp only [Qf,Qb,Qe,Qd,Qc];refine wpAnyH_take (i:=12) (oi:={ dst:=some 69,op:=_,type:=_,pos:=_,after:=_,guard:=_ }) (v:=?vx33) rfl (by kernel_rfl) (by kernel_rfl) (by kernel_rfl) (fun _ _ _ h=>h) (Or.inl ⟨by rfl,?hyx33⟩) hS ?restx33
          case hyx33 =>
           intro z hz;obtain ⟨z1,z2,z3,z4,z5⟩:=hz;go_simp
           try (with_reducible rfl)
          simp only [Qf,Qb,Qe,Qd,Qc];refine wpAnyH_take (i:=13) (oi:={ dst:=some 70,op:=_,type:=_,pos:=_,after:=_,guard:=_ }) (v:=?vx34) rfl (by kernel_rfl) (by kernel_rfl) (by kernel_rfl) (fun _ _ _ h=>h) (Or.inl ⟨by rfl,?hyx34⟩) hS ?restx34
          case hyx34 =>
           intro z hz;obtain ⟨z1,z2,z3,z4,z5⟩:=hz;go_simp
           try (with_reducible rfl)
          simp only [Qf,Qb,Qe,Qd,Qc];refine wpAnyH_take (i:=15) (oi:={ dst:=some 72,op:=_,type:=_,pos:=_,after:=_,guard:=_ }) (v:=?vx35) rfl (by kernel_rfl) (by kernel_rfl) (by kernel_rfl) (fun _ _ _ h=>h) (Or.inl ⟨by rfl,?hyx35⟩) hS ?restx35
          case hyx35 =>
           intro z hz;obtain ⟨z1,z2,z3,z4,z5⟩:=hz;go_simp
           try (with_reducible rfl)
          simp only [Qf,Qb,Qe,Qd,Qc];refine wpAnyH_take (i:=16) (oi:={ dst:=some 73,op:=_,type:=_,pos:=_,after:=_,guard:=_ }) (v:=?vx36) rfl (by kernel_rfl) (by kernel_rfl) (by kernel_rfl) (fun _ _ _ h=>h) (Or.inl ⟨by rfl,?hyx36⟩) hS ?restx36
          case hyx36 =>
           intro z hz;obtain ⟨z1,z2,z3,z4,z5⟩:=hz;go_simp
           try (with_reducible rfl)
          simp only [Qf,Qb,Qe,Qd,Qc];refine wpAnyH_take (i:=17) (oi:={ dst:=some 74,op:=_,type:=_,pos:=_,after:=_,guard:=_ }) (v:=?vx37) rfl (by kernel_rfl) (by kernel_rfl) (by kernel_rfl) (fun _ _ _ h=>h) (Or.inl ⟨by rfl,?hyx37⟩) hS ?restx37
          case hyx37 =>
           intro z hz;obtain ⟨z1,z2,z3,z4,z5⟩:=hz;go_simp
           try (with_reducible rfl)
          simp only [Qf,Qb,Qe,Qd,Qc];have hbX:=(Yu (Below.refl We.heap.size We)).trans (qdB.mono (Nat.le_refl We.heap.size));refine wpAnyH_ready (rs:=[14]) (by kernel_rfl) (by simp) ?_;refine AllReadyH.cons (o:={ dst:=some 71,op:=.call { callee:=.value (.func 71),args:=#[.tmp 67,.tmp 68,.tmp 69,.tmp 70],argTypes:=#[104,37,31,3] },type:=3,pos:=_,after:=_,guard:=some (9,false) }) rfl (fun K hK => ?_) AllReadyH.nil;refine Wg Try.func71 (by kernel_rfl) rfl #[.agg #[.func (.func 69) #[] #[]],.slice Ax x.length cx,.slice A0 l0.length c0,.int .i64 (i:Int)] (by rfl) rfl rfl (by (try simp only [List.map_toArray,List.map_cons,List.map_nil]);first|done|rfl) ?_;refine (QI.calls k 0 Ax cx x A0 c0 l0 (i:Int) hi2 _ ?q1w237 hcx ?q2w237 HC0.out HHI.out).mono ?_
          case q1w237=>exact Kd.C_below HCX.out qbg.out
          case q2w237=>exact Kd.C_below HR0.out (HI.out.bx.below.trans (qbg.out.mono hww))
          rintro e w2 ⟨rfl,hbw2⟩;refine ⟨_,rfl,?_⟩;have qk2:=Q0.mk (show Below W.heap.size W w2 from qbg.out.trans (hbw2.mono qbg.out.size));have hS1:=(show _ from hSb w2 ((show Below We.heap.size We w2 from hbX.trans (hbw2.mono (hbX.size)))));clear hS;refine hK.out _ _ hS1 (fun hS => ?_);simp only [Qf,Qb,Qe,Qd,Qc];refine wpAnyH_take (i:=18) (oi:={ dst:=some 75,op:=_,type:=_,pos:=_,after:=_,guard:=_ }) (v:=?vx38) rfl (by kernel_rfl) (by kernel_rfl) (by kernel_rfl) (fun _ _ _ h=>h) (Or.inl ⟨by rfl,?hyx38⟩) hS ?restx38
          case hyx38 =>
           intro z hz;obtain ⟨z1,z2,z3,z4,z5⟩:=hz;go_simp
           try (with_reducible rfl)
          simp only [Qf,Qb,Qe,Qd,Qc];refine wpAnyH_take (i:=19) (oi:={ dst:=some 76,op:=_,type:=_,pos:=_,after:=_,guard:=_ }) (v:=?vx39) rfl (by kernel_rfl) (by kernel_rfl) (by kernel_rfl) (fun _ _ _ h=>h) (Or.inl ⟨by rfl,?hyx39⟩) hS ?restx39
          case hyx39 =>
           intro z hz;obtain ⟨z1,z2,z3,z4,z5⟩:=hz;go_simp
           try (with_reducible rfl)
          simp only [Qf,Qb,Qe,Qd,Qc];refine wpAnyH_done (by kernel_rfl) ?_ _
          gi_wp2
          exact ⟨(KO (Bl:=lb+4) (B:=lb+3) qk2.out).1,(KO (Bl:=lb+4) (B:=lb+3) qk2.out).2,HI.out.same qk2.out (fun o ho=>by rw [HST.out,← ho,HALL.out];rfl)⟩
         ·
          rw [if_neg dd] at hhi2;have HA2:=Q0.mk hhi2;have ddb:decide (hi2<ql)=false:=decide_eq_false dd;clear dd hhi2;refine OR hmix ?hno40 (by kernel_rfl) ?_
          case hno40=>rintro ⟨a,w,h⟩;exact h
          refine wpAny_of_held (S:=(fun z=>z.cell? ⟨lb,0,none⟩=some (.func (.func 68) #[] #[])∧z.cell? ⟨lb+1,0,none⟩=some (.func (.func 69) #[] #[])∧z.cell? ⟨w.heap.size,0,none⟩=some (.slice A0 l0.length c0)∧z.cell? ⟨wr.heap.size,0,none⟩=some (.int .i64 (Qo l1 (i:Int)).f0)∧z.cell? ⟨wr.heap.size,1,none⟩=some (.int .i64 (Qo l1 (i:Int)).f1))) _ _ _ _ ?_;change wpAnyH _ _ _ _ _ _ _ _ (World.drew _);refine wpAnyH_take (i:=0) (oi:={ dst:=some 57,op:=_,type:=_,pos:=_,after:=_,guard:=_ }) (v:=?vx41) rfl (by kernel_rfl) (by kernel_rfl) (by kernel_rfl) (fun _ _ _ h=>h) (Or.inl ⟨by rfl,?hyx41⟩) hS ?restx41
          case hyx41 =>
           intro z hz;obtain ⟨z1,z2,z3,z4,z5⟩:=hz;go_simp
           try (with_reducible rfl)
          simp only [Qf,Qb,Qe,Qd,Qc];refine wpAnyH_take (i:=1) (oi:={ dst:=some 58,op:=_,type:=_,pos:=_,after:=_,guard:=_ }) (v:=?vx42) rfl (by kernel_rfl) (by kernel_rfl) (by kernel_rfl) (fun _ _ _ h=>h) (Or.inl ⟨by rfl,?hyx42⟩) hS ?restx42
          case hyx42 =>
           intro z hz;obtain ⟨z1,z2,z3,z4,z5⟩:=hz;go_simp
           try (with_reducible rfl)
          simp only [Qf,Qb,Qe,Qd,Qc];refine wpAnyH_take (i:=2) (oi:={ dst:=some 59,op:=_,type:=_,pos:=_,after:=_,guard:=_ }) (v:=?vx43) rfl (by kernel_rfl) (by kernel_rfl) (by kernel_rfl) (fun _ _ _ h=>h) (Or.inl ⟨by rfl,?hyx43⟩) hS ?restx43
          case hyx43 =>
           intro z hz;obtain ⟨z1,z2,z3,z4,z5⟩:=hz;go_simp
           try (with_reducible rfl)
          simp only [Qf,Qb,Qe,Qd,Qc];refine wpAnyH_take (i:=3) (oi:={ dst:=some 60,op:=_,type:=_,pos:=_,after:=_,guard:=_ }) (v:=?vx44) rfl (by kernel_rfl) (by kernel_rfl) (by kernel_rfl) (fun _ _ _ h=>h) (Or.inl ⟨by rfl,?hyx44⟩) hS ?restx44
          case hyx44 =>
           intro z hz;obtain ⟨z1,z2,z3,z4,z5⟩:=hz;go_simp
           try (with_reducible rfl)
          simp only [Qf,Qb,Qe,Qd,Qc];refine wpAnyH_take (i:=5) (oi:={ dst:=some 62,op:=_,type:=_,pos:=_,after:=_,guard:=_ }) (v:=?vx45) rfl (by kernel_rfl) (by kernel_rfl) (by kernel_rfl) (fun _ _ _ h=>h) (Or.inl ⟨by rfl,?hyx45⟩) hS ?restx45
          case hyx45 =>
           intro z hz;obtain ⟨z1,z2,z3,z4,z5⟩:=hz;go_simp
           try (with_reducible rfl)
          simp only [Qf,Qb,Qe,Qd,Qc];refine wpAnyH_take (i:=6) (oi:={ dst:=some 63,op:=_,type:=_,pos:=_,after:=_,guard:=_ }) (v:=?vx46) rfl (by kernel_rfl) (by kernel_rfl) (by kernel_rfl) (fun _ _ _ h=>h) (Or.inl ⟨by rfl,?hyx46⟩) hS ?restx46
          case hyx46 =>
           intro z hz;obtain ⟨z1,z2,z3,z4,z5⟩:=hz;go_simp
           try (with_reducible rfl)
          simp only [Qf,Qb,Qe,Qd,Qc];refine wpAnyH_take (i:=7) (oi:={ dst:=some 64,op:=_,type:=_,pos:=_,after:=_,guard:=_ }) (v:=?vx47) rfl (by kernel_rfl) (by kernel_rfl) (by kernel_rfl) (fun _ _ _ h=>h) (Or.inl ⟨by rfl,?hyx47⟩) hS ?restx47
          case hyx47 =>
           intro z hz;obtain ⟨z1,z2,z3,z4,z5⟩:=hz;go_simp
           try (with_reducible rfl)
          simp only [Qf,Qb,Qe,Qd,Qc];refine wpAnyH_ready (rs:=[4]) (by kernel_rfl) (by simp) ?_;refine AllReadyH.cons (o:={ dst:=some 61,op:=.call { callee:=.value (.func 71),args:=#[.tmp 57,.tmp 58,.tmp 59,.tmp 60],argTypes:=#[104,37,31,3] },type:=3,pos:=_,after:=_,guard:=none }) rfl (fun K hK => ?_) AllReadyH.nil;refine Wg Try.func71 (by kernel_rfl) rfl #[.agg #[.func (.func 68) #[] #[]],.slice Ax x.length cx,.slice A0 l0.length c0,.int .i64 (i:Int)] (by rfl) rfl rfl (by (try simp only [List.map_toArray,List.map_cons,List.map_nil]);first|done|rfl) ?_;refine (QL.calls k 0 Ax cx x A0 c0 l0 (i:Int) lo _ ?q1w147 hcx ?q2w147 HC0.out HLO.out).mono ?_
          case q1w147=>exact Kd.C_below HCX.out (Yu HBe.out)
          case q2w147=>exact Kd.C_below HR0.out (HI.out.bx.below.trans ((Yu HBe.out).mono hww))
          rintro e w1 ⟨rfl,qdB⟩;refine ⟨_,rfl,?_⟩;have qbg:=Q0.mk (show Below W.heap.size W w1 from (Yu HBe.out).trans (qdB.mono (Yu HBe.out).size));have hS1:=(show _ from hSb w1 ((show Below We.heap.size We w1 from (Yu (Below.refl We.heap.size We)).trans (qdB.mono ((Yu (Below.refl We.heap.size We)).size)))));clear hS;refine hK.out _ _ hS1 (fun hS => ?_);simp only [Qf,Qb,Qe,Qd,Qc];refine wpAnyH_take (i:=8) (oi:={ dst:=some 65,op:=_,type:=_,pos:=_,after:=_,guard:=_ }) (v:=?vx48) rfl (by kernel_rfl) (by kernel_rfl) (by kernel_rfl) (fun _ _ _ h=>h) (Or.inl ⟨by rfl,?hyx48⟩) hS ?restx48
          case hyx48 =>
           intro z hz;obtain ⟨z1,z2,z3,z4,z5⟩:=hz;go_simp
           try (with_reducible rfl)
          simp only [Qf,Qb,Qe,Qd,Qc];refine wpAnyH_take (i:=9) (oi:={ dst:=some 66,op:=_,type:=_,pos:=_,after:=_,guard:=_ }) (v:=?vx49) rfl (by kernel_rfl) (by kernel_rfl) (by kernel_rfl) (fun _ _ _ h=>h) (Or.inl ⟨by rfl,?hyx49⟩) hS ?restx49
          case hyx49 =>
           intro z hz;obtain ⟨z1,z2,z3,z4,z5⟩:=hz;go_simp
           try (with_reducible rfl)
          simp only [Qf,Qb,Qe,Qd,Qc];refine wpAnyH_take (i:=10) (oi:={ dst:=some 67,op:=_,type:=_,pos:=_,after:=_,guard:=_ }) (v:=?vx50) rfl (by kernel_rfl) (by kernel_rfl) (by kernel_rfl) (fun _ _ _ h=>h) (Or.inl ⟨by rfl,?hyx50⟩) hS ?restx50
          case hyx50 =>
           intro z hz;obtain ⟨z1,z2,z3,z4,z5⟩:=hz;go_simp
           try (with_reducible rfl)
          simp only [Qf,Qb,Qe,Qd,Qc];refine wpAnyH_take (i:=11) (oi:={ dst:=some 68,op:=_,type:=_,pos:=_,after:=_,guard:=_ }) (v:=?vx51) rfl (by kernel_rfl) (by kernel_rfl) (by kernel_rfl) (fun _ _ _ h=>h) (Or.inl ⟨by rfl,?hyx51⟩) hS ?restx51
          case hyx51 =>
           intro z hz;obtain ⟨z1,z2,z3,z4,z5⟩:=hz;go_simp
           try (with_reducible rfl)
          simp only [Qf,Qb,Qe,Qd,Qc];refine wpAnyH_take (i:=12) (oi:={ dst:=some 69,op:=_,type:=_,pos:=_,after:=_,guard:=_ }) (v:=?vx52) rfl (by kernel_rfl) (by kernel_rfl) (by kernel_rfl) (fun _ _ _ h=>h) (Or.inl ⟨by rfl,?hyx52⟩) hS ?restx52
          case hyx52 =>
           intro z hz;obtain ⟨z1,z2,z3,z4,z5⟩:=hz;go_simp
           try (with_reducible rfl)
          simp only [Qf,Qb,Qe,Qd,Qc];refine wpAnyH_take (i:=13) (oi:={ dst:=some 70,op:=_,type:=_,pos:=_,after:=_,guard:=_ }) (v:=?vx53) rfl (by kernel_rfl) (by kernel_rfl) (by kernel_rfl) (fun _ _ _ h=>h) (Or.inl ⟨by rfl,?hyx53⟩) hS ?restx53
          case hyx53 =>
           intro z hz;obtain ⟨z1,z2,z3,z4,z5⟩:=hz;go_simp
           try (with_reducible rfl)
          simp only [Qf,Qb,Qe,Qd,Qc];refine wpAnyH_take (i:=15) (oi:={ dst:=some 72,op:=_,type:=_,pos:=_,after:=_,guard:=_ }) (v:=?vx54) rfl (by kernel_rfl) (by kernel_rfl) (by kernel_rfl) (fun _ _ _ h=>h) (Or.inl ⟨by rfl,?hyx54⟩) hS ?restx54
          case hyx54 =>
           intro z hz;obtain ⟨z1,z2,z3,z4,z5⟩:=hz;go_simp
           try (with_reducible rfl)
          simp only [Qf,Qb,Qe,Qd,Qc];refine wpAnyH_take (i:=16) (oi:={ dst:=some 73,op:=_,type:=_,pos:=_,after:=_,guard:=_ }) (v:=?vx55) rfl (by kernel_rfl) (by kernel_rfl) (by kernel_rfl) (fun _ _ _ h=>h) (Or.inl ⟨by rfl,?hyx55⟩) hS ?restx55
          case hyx55 =>
           intro z hz;obtain ⟨z1,z2,z3,z4,z5⟩:=hz;go_simp
           try (with_reducible rfl)
          simp only [Qf,Qb,Qe,Qd,Qc];refine wpAnyH_take (i:=17) (oi:={ dst:=some 74,op:=_,type:=_,pos:=_,after:=_,guard:=_ }) (v:=?vx56) rfl (by kernel_rfl) (by kernel_rfl) (by kernel_rfl) (fun _ _ _ h=>h) (Or.inl ⟨by rfl,?hyx56⟩) hS ?restx56
          case hyx56 =>
           intro z hz;obtain ⟨z1,z2,z3,z4,z5⟩:=hz;go_simp
           try (with_reducible rfl)
          simp only [Qf,Qb,Qe,Qd,Qc];have hbX:=(Yu (Below.refl We.heap.size We)).trans (qdB.mono (Nat.le_refl We.heap.size));refine wpAnyH_ready (rs:=[14]) (by kernel_rfl) (by simp) ?_;refine AllReadyH.cons (o:={ dst:=some 71,op:=.call { callee:=.value (.func 71),args:=#[.tmp 67,.tmp 68,.tmp 69,.tmp 70],argTypes:=#[104,37,31,3] },type:=3,pos:=_,after:=_,guard:=some (9,false) }) rfl (fun K hK => ?_) AllReadyH.nil;refine Wg Try.func71 (by kernel_rfl) rfl #[.agg #[.func (.func 69) #[] #[]],.slice Ax x.length cx,.slice A0 l0.length c0,.int .i64 (i:Int)] (by rfl) rfl rfl (by (try simp only [List.map_toArray,List.map_cons,List.map_nil]);first|done|rfl) ?_;refine (QI.calls k 0 Ax cx x A0 c0 l0 (i:Int) hi2 _ ?q1w256 hcx ?q2w256 HC0.out HHI.out).mono ?_
          case q1w256=>exact Kd.C_below HCX.out qbg.out
          case q2w256=>exact Kd.C_below HR0.out (HI.out.bx.below.trans (qbg.out.mono hww))
          rintro e w2 ⟨rfl,hbw2⟩;refine ⟨_,rfl,?_⟩;have qk2:=Q0.mk (show Below W.heap.size W w2 from qbg.out.trans (hbw2.mono qbg.out.size));have hS1:=(show _ from hSb w2 ((show Below We.heap.size We w2 from hbX.trans (hbw2.mono (hbX.size)))));clear hS;refine hK.out _ _ hS1 (fun hS => ?_);simp only [Qf,Qb,Qe,Qd,Qc];refine wpAnyH_take (i:=18) (oi:={ dst:=some 75,op:=_,type:=_,pos:=_,after:=_,guard:=_ }) (v:=?vx57) rfl (by kernel_rfl) (by kernel_rfl) (by kernel_rfl) (fun _ _ _ h=>h) (Or.inl ⟨by rfl,?hyx57⟩) hS ?restx57
          case hyx57 =>
           intro z hz;obtain ⟨z1,z2,z3,z4,z5⟩:=hz;go_simp
           try (with_reducible rfl)
          simp only [Qf,Qb,Qe,Qd,Qc];refine wpAnyH_take (i:=19) (oi:={ dst:=some 76,op:=_,type:=_,pos:=_,after:=_,guard:=_ }) (v:=?vx58) rfl (by kernel_rfl) (by kernel_rfl) (by kernel_rfl) (fun _ _ _ h=>h) (Or.inl ⟨by rfl,?hyx58⟩) hS ?restx58
          case hyx58 =>
           intro z hz;obtain ⟨z1,z2,z3,z4,z5⟩:=hz;go_simp
           try (with_reducible rfl)
          simp only [Qf,Qb,Qe,Qd,Qc];refine wpAnyH_done (by kernel_rfl) ?_ _
          gi_wp2
          gi_roundg d
          case measure=>omega
          case rel=>exact ⟨i+1,by simp,⟨by have:=HD.out;omega⟩,⟨HA2.out⟩,qk2⟩
       ·
        have hgk:gk=0:=by have:=HD.out;omega
        subst hgk;obtain rfl:true=bb:=Option.some.inj HA.out;clear HA
        have HO:=Q0.mk (show ShO w A0 c0 l0.length A1 c1 l1.length lb (lb+1) (lb+2) (lb+3) Ax x W wr out from
         ⟨(KO (Bl:=lb+4) (B:=lb+3) HB.out).1,(KO (Bl:=lb+4) (B:=lb+3) HB.out).2,HI.out.bx.keep HB.out,Qp HI.out.lo HB.out,Qp HI.out.hi HB.out,⟨vo,Qp HBO.out HB.out,Kd.R_below HR3.out HB.out,HN.out⟩,Kd.C_below HCX.out HB.out,Nat.le_trans HI.out.sz HB.out.size⟩)
        clear HD HB qqL
        gi_upto_region 18 with (fail)
        gi_cut [79] from 80 (fun v79 wc=>v79 = .bool (decide (out=[]))∧Q0 (ShO w A0 c0 l0.length A1 c1 l1.length lb (lb+1) (lb+2) (lb+3) Ax x W wc out))
        case first =>
         obtain ⟨v2,g1,g2,g3⟩:=HO.out.ex;have hob:wr.cell? ⟨lb+2,0,none⟩=some v2:=(Q9 g1 0).trans rfl
         by_cases ho:out=[]
         ·
          rw [g3.2 ho] at hob;have hvn:=Lib.run_eql_slice_nil (P:=Try.prog) wr 32 25 none 0 0 0 0 Try.underlying32;clear g1 g2 g3
          gi_wp2
          gi_meet
          case rel=>exact ⟨by rw [decide_eq_true ho],HO⟩
         ·
          obtain ⟨go,co,eo,_,_,_⟩:=Kd.R_form g2 (List.length_pos_iff.2 ho);rw [eo] at hob;have hvn:=Lib.run_eql_slice_nil (P:=Try.prog) wr 32 25 (some ⟨go,0,none⟩) out.length co 0 0 Try.underlying32;clear g1 g2 g3 eo
          gi_wp2
          gi_meet
          case rel=>exact ⟨by rw [decide_eq_false ho],HO⟩
        case rest =>
         clear HO;obtain ⟨rfl,HO⟩:=hcut
         gi_upto_if 79 with (fail)
         gi_cut [] from 79 (fun wc=>Q0 (ShO w A0 c0 l0.length A1 c1 l1.length lb (lb+1) (lb+2) (lb+3) Ax x W wc (if out=[] then x.map (fun n=>⟨n,n⟩) else out)))
         case first =>
          by_cases ho:out=[]
          ·
           have hod:decide (out=[])=true:=decide_eq_true ho;subst ho
           gi_wp2
           gi_loopg [82] x.length (fun d v82 wr => ∃ (i:Nat),v82 = .int .i64 (i:Int)∧Q0 (i+d=x.length)∧Q0 (ShO w A0 c0 l0.length A1 c1 l1.length lb (lb+1) (lb+2) (lb+3) Ax x W wr ((x.take i).map (fun n=>⟨n,n⟩))))
           case atStart=>exact ⟨0,rfl,⟨by omega⟩,⟨by simpa using HO.out⟩⟩
           case round =>
            obtain ⟨j,rfl,HJ,HO2⟩:=hrel
            by_cases hj:j<x.length
            ·
             obtain ⟨d,rfl⟩:∃ d,gk=d+1:=⟨gk-1,by have:=HJ.out;omega⟩;obtain ⟨ad,ea,hx0⟩:=Kd.at_int HO2.out.cx (j:Int) (by omega) (by omega);subst ea;rw [Int.toNat_natCast] at hx0;obtain ⟨v2,g1,g2,g3⟩:=HO2.out.ex;have hob:wr.cell? ⟨lb+2,0,none⟩=some v2:=(Q9 g1 0).trans rfl;have hof:=Qa g1 0;have HG1:=Q0.mk g1;have HG2:=Q0.mk g2;have HG3:=Q0.mk g3;clear g1 g2 g3;have Xc:=Try.underlying25
             gi_upto_region 22 with (fail)
             refine qdI ?hnoB (by kernel_rfl) ?_
             case hnoB=>rintro ⟨a,w,h⟩;exact h
             go_wp2_with (at_builtin;refine Stop.out ?_)
             refine Stop.mk ?_
             have qCg:(((x.take j).map (fun n=>(⟨n,n⟩:S25))).length+1)*16≤140737488355328:=by simp;omega
             refine Kd.R_append k25 (w0:=wr) (lb+3) rfl (.tmp 86) (.tmp 90) 32 25 (.agg #[.int .i64 0,.int .i64 0]) 16 rfl Try.underlying32 qhy rfl (by decide) (by omega) v2 ((x.take j).map (fun n=>⟨n,n⟩)) ⟨rd x j,rd x j⟩ [.int .i64 (rd x j),.int .i64 (rd x j)] (fun _=>True) (fun _=>False) rfl rfl (Om _ _ _ ⟨rd x j,rd x j⟩) (fun _ hk=>hk.elim) (fun _ _=>trivial) HG2.out (Below.refl _ _) HO2.out.sz qCg ?_;intro v3 w3 hr3 hb3 qqS qF1;obtain ⟨go3,co3,rfl,_,_,_⟩:=Kd.R_form hr3 (by simp);have qGp:w3.cell? ⟨lb+2,0,none⟩=some v2:=(Q9 (JN HG2.out qqS (by decide) HG1.out) 0).trans rfl;have qGq:=Qa (JN HG2.out qqS (by decide) HG1.out) 0;have HSN:=Q0.mk (HO2.out.app qp7 HG1.out HG2.out qqS hr3 (by simp) HROW.out)
             go_wp2
             gi_wp2
             gi_roundg d
             case measure=>omega
             case rel =>
              refine ⟨j+1,by simp,⟨by have:=HJ.out;omega⟩,⟨?_⟩⟩;have h5:=HSN.out;rw [List.take_succ_eq_append_getElem hj,List.map_append,List.map_singleton]
              have h6:rd x (j:Int)=x[j]:=by simp [rd,List.getD_eq_getElem?_getD,List.getElem?_eq_getElem hj]
              rw [← h6]
              simpa using h5
            ·
             have hjx:j=x.length:=by have:=HJ.out;omega
             subst hjx
             gi_wp2
             gi_meet
             case rel=>exact ⟨by have:=HO2.out;rw [List.take_length] at this;exact this⟩
          ·
           have hod:decide (out=[])=false:=decide_eq_false ho
           gi_wp2
           gi_meet
           case rel=>exact ⟨by rw [if_neg ho];exact HO.out⟩
         case rest =>
          clear HO;have HO:=hcut;obtain ⟨o2,ho2⟩:∃ o2,(if out=[] then x.map (fun n=>(⟨n,n⟩:S25)) else out)=o2:=⟨_,rfl⟩
          have hl2:o2.length=x.length:=by
           rw [← ho2]
           rcases HOUT.out with h|h
           · rw [if_pos h];simp
           ·
            by_cases h0:out=[]
            · rw [if_pos h0];simp
            · rw [if_neg h0,h,HXL.out]
          rw [ho2] at HO;have HL2:=Q0.mk hl2;have HE2:=Q0.mk ho2;clear ho2 hl2
          gi_wp2
          gi_loopg [95] x.length (fun d v95 wr => ∃ (i:Nat),v95 = .int .i64 (i:Int)∧Q0 (i+d=x.length)∧Q0 (ShO w A0 c0 l0.length A1 c1 l1.length lb (lb+1) (lb+2) (lb+3) Ax x W wr (U1 o2 x i)))
          case atStart=>exact ⟨0,rfl,⟨by omega⟩,⟨by rw [qik];exact HO.out⟩⟩
          case round =>
           obtain ⟨j,rfl,HJ,HQ⟩:=hrel
           by_cases hj:j<x.length
           ·
            obtain ⟨d,rfl⟩:∃ d,gk=d+1:=⟨gk-1,by have:=HJ.out;omega⟩;obtain ⟨ad,ea,hx0⟩:=Kd.at_int HQ.out.cx (j:Int) (by omega) (by omega);subst ea;rw [Int.toNat_natCast] at hx0;obtain ⟨v2,g1,g2,g3⟩:=HQ.out.ex;obtain ⟨oj,hoj⟩:∃ oj,U1 o2 x j=oj:=⟨_,rfl⟩
            have hjo:oj.length=x.length:=by rw [← hoj];exact qd7 HL2.out (by omega)
            rw [hoj] at g2 g3;obtain ⟨go,co,rfl,_,_,_⟩:=Kd.R_form g2 (by omega);have hob:wr.cell? ⟨lb+2,0,none⟩=some (.slice (some ⟨go,0,none⟩) oj.length co):=(Q9 g1 0).trans rfl
            have hjl:j<oj.length:=by omega
            obtain ⟨c,hcl,hM,hcc,hcf⟩:=Kd.R_elem g2 z25 (j:Int) (by omega) (by omega);obtain ⟨p,hp⟩:∃ p,oj.getD j z25=p:=⟨_,rfl⟩;rw [Int.toNat_natCast] at hM hcc hcf;rw [hp] at hM;obtain rfl:=qbk hM;have he0:wr.cell? ⟨go,j*2,none⟩=some (.int .i64 p.f0):=hcc 0 _ rfl;have he1:wr.cell? ⟨go,j*2+1,none⟩=some (.int .i64 p.f1):=hcc 1 _ rfl;have HCC:=Q0.mk hcc;have HG1:=Q0.mk g1;have HG2:=Q0.mk g2;have HP:=Q0.mk hp;have HOJ:=Q0.mk hoj;have HJO:=Q0.mk hjo;clear hcc g1 g2 g3 hp hoj hjo hcl hM hcf;have Xc:=Try.underlying25
            gi_upto_region 27 with (fail)
            refine Xd 18 hmix ?hnoC (by kernel_rfl) (by kernel_rfl) ?_
            case hnoC=>rintro ⟨a,w,h⟩;exact h
            simp only [List.take_succ_cons,List.take_zero,List.drop_succ_cons,List.drop_zero]
            repeat still_step
            refine wpStill_nil ?_;change wpList _ _ _ _ _ (World.drew _);refine Kd.R_store k25 (w0:=wr.drew) (lb+3) rfl rfl 25 (.tmp 117) (.tmp 116) rfl 25 (o':=j*2) (j:Int) 0 oj ⟨if rd x (j:Int)<p.f0 then rd x (j:Int) else p.f0,if p.f1<rd x (j:Int) then rd x (j:Int) else p.f1⟩ (.agg #[.int .i64 (if rd x (j:Int)<p.f0 then rd x (j:Int) else p.f0),.int .i64 (if p.f1<rd x (j:Int) then rd x (j:Int) else p.f1)]) [.int .i64 (if rd x (j:Int)<p.f0 then rd x (j:Int) else p.f0),.int .i64 (if p.f1<rd x (j:Int) then rd x (j:Int) else p.f1)] [.int .i64 p.f0,.int .i64 p.f1] (fun _=>True) (fun _=>False) rfl (by rw [Int.toNat_natCast];rfl) rfl rfl (by rw [qoB.1];rfl) (by simp [Value.oneCell']) (Kd.R_drew HG2.out) (by omega) (by omega) rfl (by rw [Int.toNat_natCast];exact HCC.out) (Nat.le_refl 2) (Om _ _ _ ⟨if rd x (j:Int)<p.f0 then rd x (j:Int) else p.f0,if p.f1<rd x (j:Int) then rd x (j:Int) else p.f1⟩) (fun _ hk=>hk.elim) (Below.refl _ _) ?_;intro w1 hr1 hb1 qCf
            have hset:oj.set (j:Int).toNat ⟨if rd x (j:Int)<p.f0 then rd x (j:Int) else p.f0,if p.f1<rd x (j:Int) then rd x (j:Int) else p.f1⟩=U1 o2 x (j+1):=by
             rw [Int.toNat_natCast,← HOJ.out]
             exact qij HL2.out hj (by rw [HOJ.out];exact HP.out)
            rw [hset] at hr1;have HSN:=Q0.mk (HQ.out.put qp7 HG1.out HG2.out (Wm qCf) hr1 (by intro e;have:=qd7 (j:=j+1) HL2.out (by omega);rw [e] at this;simp at this;omega) HROW.out);clear hset
            go_wp2
            all_goals
             gi_wp2
            all_goals
             gi_roundg d
             case measure=>omega
             case rel=>exact ⟨j+1,by simp,⟨by have:=HJ.out;omega⟩,HSN⟩
           ·
            have hjx:j=x.length:=by have:=HJ.out;omega
            subst hjx
            gi_wp2
            have h5:=HQ.out;rw [qkH HL2.out] at h5;obtain ⟨v2,g1,g2,g3⟩:=h5.ex;refine ⟨h5.kf,h5.kr,⟨⟨v2,_,?_,g1,g2,g3⟩,h5.bx,h5.lo,h5.hi,h5.sz⟩⟩;rw [HST.out,← HE2.out];rfl
     case done =>
      intro D W hD hI hK;obtain ⟨v,out,h1,h2,h3,h4⟩:=hI.ex;have hco:W.cell? ⟨lb+2,0,none⟩=some v:=(Q9 h2 0).trans rfl;have hF2:=HF.out;rw [h1] at hF2
      have hDw:w.heap.size≤D:=by omega
      have HBW:=Q0.mk hI.bx.below;have HKD:=Q0.mk hK;have HR3:=Q0.mk h3
      have heq:∀ (a:Option Addr) (n c:Nat),(binOp .eql 32 (.slice a n c) (.slice none 0 0)).run Try.prog W = .ok (.bool a.isNone) W:=fun a n c=>Lib.run_eql_slice_nil W 32 25 a n c 0 0 Try.underlying32
      clear hI h2 h1 h3 HF hK
      by_cases ho:out=[]
      ·
       obtain rfl:=h4.2 ho;subst ho
       injection hF2 with hF2
       replace hF2:(([],4):List S25 × Int)=(r1,r2):=hF2
       injection hF2 with e1 e2
       subst e1 e2;clear h4 HR3
       gi_wp2
       simp only [Exit.noGoto];refine ⟨by simp,.inl ⟨_,_,rfl,run_takeDeferred HKD.out,?_⟩⟩;refine ⟨_,results_tmp2 rfl _ _ _,?_⟩
       exact ⟨_,rfl,Kd.V_nil _ _ _ _ _,HBW.out.grown (grownBy_putObj' _ _ _) HBW.out.size (fun r e=>by cases e;omega)⟩
      ·
       injection hF2 with hF2
       replace hF2:(out,(0:Int))=(r1,r2):=by rw [← hF2];simp [ho]
       injection hF2 with e1 e2
       subst e1 e2;have hpos:0<out.length:=List.length_pos_iff.2 ho;obtain ⟨go,co,eo,gb,gl,cl,HG⟩:=Kd.R_form HR3.out hpos;subst eo;have hcc:=(Kd.R_reads' HR3.out).2.1;have hcut:=Wa (P:=Try.prog) 32 25 Try.underlying32 rfl (some ⟨go,0,none⟩) out.length co hcc;have HGC:=Q0.mk HG;clear HG h4 ho
       gi_wp2
       simp only [Exit.noGoto];refine ⟨by simp,.inl ⟨_,_,rfl,run_takeDeferred HKD.out,?_⟩⟩;refine ⟨_,results_tmp2 rfl _ _ _,?_⟩;have hgp:=grownBy_putObj' W D (.deferred none);have hR4:Kd.R k25 25 W w.heap.size (fun k_=>w.heap.size≤k_) (.slice (some ⟨go,0,none⟩) out.length co) out:=Kd.R_mono (Kd.R_bound (Kd.R_lower HR3.out (by omega))) (fun _ hk=>hk.2.1)
       have hne:go≠D:=fun e=>by
        have h5:=HGC.out;rw [e,HKD.out] at h5;cases h5
       refine ⟨_,rfl,qlc (Kd.R_mono (Kd.R_move (Kd.R_types2 hR4 HKD.out) (fun k hk=>World.putObj_heap_other hk.2)) (fun _ hk=>hk.1)) _ rfl,HBW.out.grown hgp HBW.out.size (fun r e=>by cases e;omega)⟩
end Go.Proofs.Ytmhomdohhihlcaa.P
namespace Go.Proofs.Ytmhomdohhihlcaa.P
open Go.RowKit Go.Proofs.YtmhomdohhihlcaaW.PrintWords Go.Proofs.YtmhomdohhihlcaaW.PrintLast Go.Proofs.YtmhomdohhihlcaaW.PrintMore
section
attribute [local go_sem] YR YU Z8 Z9 YA YC YT YV
mutual
def QY.l0:Nat→List (S68)→Int→Int→Bool→List (S68)→Int→Int→Option (Int × Int × Int)
 | 0,_,_,_,_,_,_,_=>none
 | k+1,x0,x1,x2,x8,x17,x18,x19=>if x19<x18 then (if 0≤x19 then (if x19<(x17.length:Int) then (if x8=true then ((Qt.f ((Yh x17 x19).f0) 0 10000).bind fun t105=>(if t105=true then ((ZU.f ((Yh x17 x19).f1.f0) ((Yh x17 x19).f1.f1) 20).bind fun qdn=>(QY.l0 k x0 x1 x2 qdn x17 x18 (wrap64 (x19+1)))) else (QY.l0 k x0 x1 x2 false x17 x18 (wrap64 (x19+1))))) else (QY.l0 k x0 x1 x2 false x17 x18 (wrap64 (x19+1)))) else (none)) else (none)) else (if x8=true then ((Qt.f x1 0 20).bind fun t107=>(if t107=true then ((Qt.f x2 x1 20).bind fun qmx=>(QY.j1 k x0 x1 x2 (!qmx))) else (QY.j1 k x0 x1 x2 true))) else (some (0,0,90)))
def QY.j1:Nat→List (S68)→Int→Int→Bool→Option (Int × Int × Int)
 | 0,_,_,_,_=>none
 | k+1,x0,x1,x2,x46=>if x46=true then (some (0,0,7)) else (QY.l1 k x1 x2 x0 (x0.length:Int) 0 0 0)
def QY.l1:Nat→Int→Int→List (S68)→Int→Int→Int→Int→Option (Int × Int × Int)
 | 0,_,_,_,_,_,_,_=>none
 | k+1,x1,x2,x48,x49,x50,On,Oo=>if x50<x49 then (if 0≤x50 then (if x50<(x48.length:Int) then (if x1≤((Yh x48 x50).f1.f0) then (QY.j3 k x1 x2 x48 x49 x50 (decide (((Yh x48 x50).f1.f1)≤x2)) On Oo ((Yh x48 x50).f0) ((Yh x48 x50).f1.f0) ((Yh x48 x50).f1.f1)) else (QY.j3 k x1 x2 x48 x49 x50 false On Oo ((Yh x48 x50).f0) ((Yh x48 x50).f1.f0) ((Yh x48 x50).f1.f1))) else (none)) else (none)) else (some (On,Oo,0))
def QY.j3:Nat→Int→Int→List (S68)→Int→Int→Bool→Int→Int→Int→Int→Int→Option (Int × Int × Int)
 | 0,_,_,_,_,_,_,_,_,_,_,_=>none
 | k+1,x1,x2,x48,x49,x50,x65,On,Oo,qba,qjJ,qjK=>if x65=true then (if x1≤qjK then (if qjJ≤x2 then (QY.l1 k x1 x2 x48 x49 (wrap64 (x50+1)) (wrap64 (On+qba)) (wrap64 (Oo+qba))) else (QY.l1 k x1 x2 x48 x49 (wrap64 (x50+1)) (wrap64 (On+qba)) Oo)) else (QY.l1 k x1 x2 x48 x49 (wrap64 (x50+1)) (wrap64 (On+qba)) Oo)) else (if x1≤qjK then (if qjJ≤x2 then (QY.l1 k x1 x2 x48 x49 (wrap64 (x50+1)) On (wrap64 (Oo+qba))) else (QY.l1 k x1 x2 x48 x49 (wrap64 (x50+1)) On Oo)) else (QY.l1 k x1 x2 x48 x49 (wrap64 (x50+1)) On Oo))
end
def QY.f (k:Nat) (l0:List (S68)) (a1:Int) (a2:Int):Option (Int × Int × Int):=QY.l0 k l0 a1 a2 (decide ((l0.length:Int)≤20)) l0 (l0.length:Int) 0
set_option maxHeartbeats 8000000 in
set_option maxRecDepth 100000 in
theorem QY.calls (k:Nat) (A0:Option Addr) (c0:Nat) (l0:List (S68)) (a1:Int) (a2:Int) (r1:Int) (r2:Int) (r3:Int) (w:World) (hr0:Kd.C k68 w A0 l0.length l0) (hc0:l0.length≤c0) (h:QY.f k l0 a1 a2=some (r1,r2,r3)) :
  Calls Try.prog 19 #[.slice A0 l0.length c0,.int .i64 a1,.int .i64 a2] w fun e w'=>e = .returned (.tuple #[.agg #[.int .i64 r1,.int .i64 r2],.int .i64 r3])∧Below w.heap.size w w':=by
 have Xc:=Try.underlying25
 have qCD:=Try.underlying68
 have HR0:=Q0.mk hr0
 have HC0:=Q0.mk hc0
 clear hr0 hc0
 have HB:=Q0.mk (Below.refl w.heap.size w)
 have H:(QY.l0 k l0 a1 a2 (decide ((l0.length:Int)≤20)) l0 (l0.length:Int) 0)=some (r1,r2,r3):=h
 clear h
 have H':=Q0.mk H
 clear H
 go_enter Try.func19,Try.ntmps19
 go_wp2_with (first|((with_reducible refine Y0 (N:=6) rfl ?_);refine Yv ?hg (N:=6) ?hd (cs:=#[.int .i64 0,.int .i64 0]) (t:=25) ?hr ?_;(case hd=>rfl);(case hg=>rfl);(case hr=>first|(go_simp;done)|(go_simp;rfl));intro Jd hg w4 hbox hb;have n0_:=Q0.mk (Qv (by repeat (first|(with_reducible first|exact HB.out|apply Q2|apply Q1|apply Q4)|exact HB.out)) hb);have n1_:=Q0.mk (hbox);have n2_:=Q0.mk ((by rw [hg];exact (Qn (by repeat (first|(with_reducible first|exact HB.out|apply Q2|apply Q1|apply Q4)|exact HB.out))):w.heap.size≤Jd));have n3_:=n2_;clear HB;have HB:=n0_;have Zl:=n1_;have qC5:=n2_;have JH:=n3_;clear n0_ n1_ n2_ n3_ hb hbox hg))
 go_loopg [8,19] k (fun kq v8 v19 w' => ∃ (UU:Bool) (ZT:Int),v8 = .bool UU∧v19 = .int .i64 ZT∧Q0 (QY.l0 kq l0 a1 a2 UU l0 (l0.length:Int) ZT=some (r1,r2,r3))∧Q0 (kq≤k)∧Q0 (w'.heap[Jd]? = some (.cells #[.int .i64 0,.int .i64 0] 25 (0,0)))∧Q0 (Below w.heap.size w w'))
 case atStart=>exact ⟨(decide ((l0.length:Int)≤20)),(0),(by first|rfl|(simp;done)|(simp [*];done)),(by first|rfl|(simp;done)|(simp [*];done)),H',⟨Nat.le_refl _⟩,⟨by (with_reducible repeat (first|refine Q5 ?_ _|refine Q7 ?_|refine Q3 ?_ _));exact Zl.out⟩,⟨by repeat (first|(with_reducible first|exact HB.out|apply Q2|apply Q1|apply Q4|refine Q8 ?_ JH.out)|exact HB.out)⟩⟩
 clear H'
 try clear c1
 try clear p2
 obtain ⟨UU,ZT,rfl,rfl,HA,HK1,Zl,HB⟩:=hrel
 cases gk with
 | zero=>exact absurd HA.out (by simp [QY.l0])
 | succ k1 =>
  have H:=HA.out
  clear HA
  simp only [QY.l0] at H
  by_cases c5:ZT<(l0.length:Int)
  ·
   rw [if_pos c5] at H
   have c5b0:decide (ZT<(l0.length:Int))=true:=decide_eq_true c5
   clear c5
   by_cases c6:0≤ZT
   ·
    rw [if_pos c6] at H;have c6b0:decide (0≤ZT)=true:=decide_eq_true c6;clear c6
    by_cases c7:ZT<(l0.length:Int)
    ·
     rw [if_pos c7] at H;have c7b0:decide (ZT<(l0.length:Int))=true:=decide_eq_true c7;clear c7
     by_cases c8:UU=true
     ·
      subst c8
      have H1:((Qt.f ((Yh l0 ZT).f0) 0 10000).bind fun t105=>(if t105=true then ((ZU.f ((Yh l0 ZT).f1.f0) ((Yh l0 ZT).f1.f1) 20).bind fun qdn=>(QY.l0 k1 l0 a1 a2 qdn l0 (l0.length:Int) (wrap64 (ZT+1)))) else (QY.l0 k1 l0 a1 a2 false l0 (l0.length:Int) (wrap64 (ZT+1)))))=some (r1,r2,r3):=by rw [if_pos rfl] at H;exact H
      clear H;have H:=H1;clear H1;replace H:=Option.bind_eq_some_iff.mp H;obtain ⟨t105,A90,H⟩:=H;replace H:(if t105=true then ((ZU.f ((Yh l0 ZT).f1.f0) ((Yh l0 ZT).f1.f1) 20).bind fun qdn=>(QY.l0 k1 l0 a1 a2 qdn l0 (l0.length:Int) (wrap64 (ZT+1)))) else (QY.l0 k1 l0 a1 a2 false l0 (l0.length:Int) (wrap64 (ZT+1))))=some (r1,r2,r3):=H;have A9:=Q0.mk A90;clear A90
      by_cases c10:t105=true
      ·
       subst c10
       have H1:((ZU.f ((Yh l0 ZT).f1.f0) ((Yh l0 ZT).f1.f1) 20).bind fun qdn=>(QY.l0 k1 l0 a1 a2 qdn l0 (l0.length:Int) (wrap64 (ZT+1))))=some (r1,r2,r3):=by rw [if_pos rfl] at H;exact H
       clear H;have H:=H1;clear H1;replace H:=Option.bind_eq_some_iff.mp H;obtain ⟨qdn,qfF,H⟩:=H;replace H:(QY.l0 k1 l0 a1 a2 qdn l0 (l0.length:Int) (wrap64 (ZT+1)))=some (r1,r2,r3):=H;have A11:=Q0.mk qfF;clear qfF;have H':=Q0.mk H;clear H;have qa1:0≤(ZT:Int):=of_decide_eq_true (by first|(with_reducible assumption)|assumption);have qa2:ZT<(l0.length:Int):=of_decide_eq_true (by first|(with_reducible assumption)|assumption);obtain ⟨qpM,qlw,GF,GG,GH⟩:=qej HR0.out ZT qa1 qa2;cases qlw;replace GF:=(HB.out.cell (World.block_lt_of_cell? w _ GF)).trans GF;replace GG:=(HB.out.cell (World.block_lt_of_cell? w _ GG)).trans GG;replace GH:=(HB.out.cell (World.block_lt_of_cell? w _ GH)).trans GH;replace qa1:=eq_true qa1;replace qa2:=eq_true qa2
       go_wp2_with (first|((with_reducible refine Y0 (N:=10) rfl ?_);refine Yv ?hg (N:=10) ?hd (cs:=#[.int .i64 0,.int .i64 0,.int .i64 0]) (t:=68) ?hr ?_;(case hd=>rfl);(case hg=>rfl);(case hr=>first|(go_simp;done)|(go_simp;rfl));intro Gz hg w12 hbox hb;have n0_:=Q0.mk (Qp (g:=Jd) (by (with_reducible repeat (first|refine Q5 ?_ _|refine Q7 ?_|refine Q3 ?_ _));exact Zl.out) hb);have n1_:=Q0.mk (Qv (by repeat (first|(with_reducible first|exact HB.out|apply Q2|apply Q1|apply Q4|refine Q8 ?_ JH.out)|exact HB.out)) hb);have n2_:=Q0.mk (hbox);have n3_:=Q0.mk ((by rw [hg];exact (Qn (by repeat (first|(with_reducible first|exact HB.out|apply Q2|apply Q1|apply Q4|refine Q8 ?_ JH.out)|exact HB.out))):w.heap.size≤Gz));have n4_:=n3_;have n5_:=Q0.mk ((by rw [hg];exact Nat.ne_of_lt (QT (g:=Jd) (by (with_reducible repeat (first|refine Q5 ?_ _|refine Q7 ?_|refine Q3 ?_ _));exact Zl.out)):Jd≠Gz));have n6_:=Q0.mk (n5_.out.symm);clear Zl HB;have Zl:=n0_;have HB:=n1_;have GL:=n2_;have qpf:=n3_;have qdT:=n4_;have JJ:=n5_;have W4:=n6_;clear n0_ n1_ n2_ n3_ n4_ n5_ n6_ hb hbox hg;have qEb:=W4.out;have qEN:=JJ.out;have Uf:w12.cell? ⟨Gz,0,none⟩=some (.int .i64 0):=(Q9 GL.out 0).trans rfl;have Ug:w12.cell? ⟨Gz,1,none⟩=some (.int .i64 0):=(Q9 GL.out 1).trans rfl;have Uh:w12.cell? ⟨Gz,2,none⟩=some (.int .i64 0):=(Q9 GL.out 2).trans rfl;have Ur:=Qa GL.out 0;have Us:=Qa GL.out 1;have Ut:=Qa GL.out 2)|(go_at_call 65;(with_reducible refine (Qt.calls ((Yh l0 ZT).f0) 0 10000 true _ A9.out).mono ?_);rintro e w' ⟨rfl,⟨nd,rfl⟩⟩)|(go_at_call 66;(with_reducible refine (ZU.calls ((Yh l0 ZT).f1.f0) ((Yh l0 ZT).f1.f1) 20 qdn _ A11.out).mono ?_);rintro e w15 ⟨rfl,hb⟩;have n0_:=Q0.mk (Qp (g:=Jd) (o:=.cells #[.int .i64 0,.int .i64 0] 25 (0,0)) (by (with_reducible repeat (first|refine Q5 ?_ _|refine Q7 ?_|refine Q3 ?_ _));refine Qx ?_ JJ.out _;(with_reducible repeat (first|refine Q5 ?_ _|refine Q7 ?_|refine Q3 ?_ _));refine Qx ?_ JJ.out _;(with_reducible repeat (first|refine Q5 ?_ _|refine Q7 ?_|refine Q3 ?_ _));refine Qx ?_ JJ.out _;(with_reducible repeat (first|refine Q5 ?_ _|refine Q7 ?_|refine Q3 ?_ _));exact Zl.out) hb);have n1_:=Q0.mk (Qp (g:=Gz) (o:=.cells #[.int .i64 ((Yh l0 ZT).f0),.int .i64 ((Yh l0 ZT).f1.f0),.int .i64 ((Yh l0 ZT).f1.f1)] 68 (0,0)) (by (with_reducible repeat (first|refine Q5 ?_ _|refine Q7 ?_|refine Q3 ?_ _));refine QG (cs:=#[.int .i64 ((Yh l0 ZT).f0),.int .i64 ((Yh l0 ZT).f1.f0),.int .i64 0]) ?_ 2 _ rfl;(with_reducible repeat (first|refine Q5 ?_ _|refine Q7 ?_|refine Q3 ?_ _));refine QG (cs:=#[.int .i64 ((Yh l0 ZT).f0),.int .i64 0,.int .i64 0]) ?_ 1 _ rfl;(with_reducible repeat (first|refine Q5 ?_ _|refine Q7 ?_|refine Q3 ?_ _));refine QG (cs:=#[.int .i64 0,.int .i64 0,.int .i64 0]) ?_ 0 _ rfl;(with_reducible repeat (first|refine Q5 ?_ _|refine Q7 ?_|refine Q3 ?_ _));exact GL.out) hb);have n2_:=Q0.mk (Qv (by repeat (first|(with_reducible first|exact HB.out|apply Q2|apply Q1|apply Q4|refine Q8 ?_ JH.out|refine Q8 ?_ qdT.out)|exact HB.out)) hb);clear Zl GL HB;have Zl:=n0_;have GL:=n1_;have HB:=n2_;clear n0_ n1_ n2_;(try clear hb);(try clear hb2);(try clear hk);(try clear hi)))
       go_roundg k1
       case measure=>have:=HK1.out;omega
       case rel=>exact ⟨(qdn),(wrap64 (ZT+1)),(by first|rfl|(simp;done)|(simp [*];done)),(by first|rfl|(simp;done)|(simp [*];done)),H',⟨by have:=HK1.out;omega⟩,⟨by (with_reducible repeat (first|refine Q5 ?_ _|refine Q7 ?_|refine Q3 ?_ _));exact Zl.out⟩,⟨by repeat (first|(with_reducible first|exact HB.out|apply Q2|apply Q1|apply Q4|refine Q8 ?_ JH.out|refine Q8 ?_ qdT.out)|exact HB.out)⟩⟩
      replace c10:=Bool.eq_false_iff.mpr c10;subst c10
      have H1:(QY.l0 k1 l0 a1 a2 false l0 (l0.length:Int) (wrap64 (ZT+1)))=some (r1,r2,r3):=by rw [if_neg (show ¬ (false=true) by decide)] at H;exact H
      clear H;have H:=H1;clear H1;have H':=Q0.mk H;clear H;have qa1:0≤(ZT:Int):=of_decide_eq_true (by first|(with_reducible assumption)|assumption);have qa2:ZT<(l0.length:Int):=of_decide_eq_true (by first|(with_reducible assumption)|assumption);obtain ⟨qpM,qlw,GF,GG,GH⟩:=qej HR0.out ZT qa1 qa2;cases qlw;replace GF:=(HB.out.cell (World.block_lt_of_cell? w _ GF)).trans GF;replace GG:=(HB.out.cell (World.block_lt_of_cell? w _ GG)).trans GG;replace GH:=(HB.out.cell (World.block_lt_of_cell? w _ GH)).trans GH;replace qa1:=eq_true qa1;replace qa2:=eq_true qa2
      go_wp2_with (first|((with_reducible refine Y0 (N:=10) rfl ?_);refine Yv ?hg (N:=10) ?hd (cs:=#[.int .i64 0,.int .i64 0,.int .i64 0]) (t:=68) ?hr ?_;(case hd=>rfl);(case hg=>rfl);(case hr=>first|(go_simp;done)|(go_simp;rfl));intro Gz hg w16 hbox hb;have n0_:=Q0.mk (Qp (g:=Jd) (by (with_reducible repeat (first|refine Q5 ?_ _|refine Q7 ?_|refine Q3 ?_ _));exact Zl.out) hb);have n1_:=Q0.mk (Qv (by repeat (first|(with_reducible first|exact HB.out|apply Q2|apply Q1|apply Q4|refine Q8 ?_ JH.out)|exact HB.out)) hb);have n2_:=Q0.mk (hbox);have n3_:=Q0.mk ((by rw [hg];exact (Qn (by repeat (first|(with_reducible first|exact HB.out|apply Q2|apply Q1|apply Q4|refine Q8 ?_ JH.out)|exact HB.out))):w.heap.size≤Gz));have n4_:=n3_;have n5_:=Q0.mk ((by rw [hg];exact Nat.ne_of_lt (QT (g:=Jd) (by (with_reducible repeat (first|refine Q5 ?_ _|refine Q7 ?_|refine Q3 ?_ _));exact Zl.out)):Jd≠Gz));have n6_:=Q0.mk (n5_.out.symm);clear Zl HB;have Zl:=n0_;have HB:=n1_;have GL:=n2_;have qpf:=n3_;have qdT:=n4_;have JJ:=n5_;have W4:=n6_;clear n0_ n1_ n2_ n3_ n4_ n5_ n6_ hb hbox hg;have quv:=W4.out;have quJ:=JJ.out;have Ul:w16.cell? ⟨Gz,0,none⟩=some (.int .i64 0):=(Q9 GL.out 0).trans rfl;have Um:w16.cell? ⟨Gz,1,none⟩=some (.int .i64 0):=(Q9 GL.out 1).trans rfl;have Un:w16.cell? ⟨Gz,2,none⟩=some (.int .i64 0):=(Q9 GL.out 2).trans rfl;have Ux:=Qa GL.out 0;have Uy:=Qa GL.out 1;have Uz:=Qa GL.out 2)|(go_at_call 65;(with_reducible refine (Qt.calls ((Yh l0 ZT).f0) 0 10000 false _ A9.out).mono ?_);rintro e w' ⟨rfl,⟨nd,rfl⟩⟩))
      go_roundg k1
      case measure=>have:=HK1.out;omega
      case rel=>exact ⟨(false),(wrap64 (ZT+1)),(by first|rfl|(simp;done)|(simp [*];done)),(by first|rfl|(simp;done)|(simp [*];done)),H',⟨by have:=HK1.out;omega⟩,⟨by (with_reducible repeat (first|refine Q5 ?_ _|refine Q7 ?_|refine Q3 ?_ _));refine Qx ?_ JJ.out _;(with_reducible repeat (first|refine Q5 ?_ _|refine Q7 ?_|refine Q3 ?_ _));refine Qx ?_ JJ.out _;(with_reducible repeat (first|refine Q5 ?_ _|refine Q7 ?_|refine Q3 ?_ _));refine Qx ?_ JJ.out _;(with_reducible repeat (first|refine Q5 ?_ _|refine Q7 ?_|refine Q3 ?_ _));exact Zl.out⟩,⟨by repeat (first|(with_reducible first|exact HB.out|apply Q2|apply Q1|apply Q4|refine Q8 ?_ JH.out|refine Q8 ?_ qdT.out)|exact HB.out)⟩⟩
     replace c8:=Bool.eq_false_iff.mpr c8;subst c8
     have H1:(QY.l0 k1 l0 a1 a2 false l0 (l0.length:Int) (wrap64 (ZT+1)))=some (r1,r2,r3):=by rw [if_neg (show ¬ (false=true) by decide)] at H;exact H
     clear H;have H:=H1;clear H1;have H':=Q0.mk H;clear H;have qa1:0≤(ZT:Int):=of_decide_eq_true (by first|(with_reducible assumption)|assumption);have qa2:ZT<(l0.length:Int):=of_decide_eq_true (by first|(with_reducible assumption)|assumption);obtain ⟨qpM,qlw,GF,GG,GH⟩:=qej HR0.out ZT qa1 qa2;cases qlw;replace GF:=(HB.out.cell (World.block_lt_of_cell? w _ GF)).trans GF;replace GG:=(HB.out.cell (World.block_lt_of_cell? w _ GG)).trans GG;replace GH:=(HB.out.cell (World.block_lt_of_cell? w _ GH)).trans GH;replace qa1:=eq_true qa1;replace qa2:=eq_true qa2
     go_wp2_with (first|((with_reducible refine Y0 (N:=10) rfl ?_);refine Yv ?hg (N:=10) ?hd (cs:=#[.int .i64 0,.int .i64 0,.int .i64 0]) (t:=68) ?hr ?_;(case hd=>rfl);(case hg=>rfl);(case hr=>first|(go_simp;done)|(go_simp;rfl));intro Gz hg w19 hbox hb;have n0_:=Q0.mk (Qp (g:=Jd) (by (with_reducible repeat (first|refine Q5 ?_ _|refine Q7 ?_|refine Q3 ?_ _));exact Zl.out) hb);have n1_:=Q0.mk (Qv (by repeat (first|(with_reducible first|exact HB.out|apply Q2|apply Q1|apply Q4|refine Q8 ?_ JH.out)|exact HB.out)) hb);have n2_:=Q0.mk (hbox);have n3_:=Q0.mk ((by rw [hg];exact (Qn (by repeat (first|(with_reducible first|exact HB.out|apply Q2|apply Q1|apply Q4|refine Q8 ?_ JH.out)|exact HB.out))):w.heap.size≤Gz));have n4_:=n3_;have n5_:=Q0.mk ((by rw [hg];exact Nat.ne_of_lt (QT (g:=Jd) (by (with_reducible repeat (first|refine Q5 ?_ _|refine Q7 ?_|refine Q3 ?_ _));exact Zl.out)):Jd≠Gz));have n6_:=Q0.mk (n5_.out.symm);clear Zl HB;have Zl:=n0_;have HB:=n1_;have GL:=n2_;have qpf:=n3_;have qdT:=n4_;have JJ:=n5_;have W4:=n6_;clear n0_ n1_ n2_ n3_ n4_ n5_ n6_ hb hbox hg;have quw:=W4.out;have quK:=JJ.out;have OJ:w19.cell? ⟨Gz,0,none⟩=some (.int .i64 0):=(Q9 GL.out 0).trans rfl;have OK:w19.cell? ⟨Gz,1,none⟩=some (.int .i64 0):=(Q9 GL.out 1).trans rfl;have OL:w19.cell? ⟨Gz,2,none⟩=some (.int .i64 0):=(Q9 GL.out 2).trans rfl;have OO:=Qa GL.out 0;have OP:=Qa GL.out 1;have OQ:=Qa GL.out 2))
     go_roundg k1
     case measure=>have:=HK1.out;omega
     case rel=>exact ⟨(false),(wrap64 (ZT+1)),(by first|rfl|(simp;done)|(simp [*];done)),(by first|rfl|(simp;done)|(simp [*];done)),H',⟨by have:=HK1.out;omega⟩,⟨by (with_reducible repeat (first|refine Q5 ?_ _|refine Q7 ?_|refine Q3 ?_ _));refine Qx ?_ JJ.out _;(with_reducible repeat (first|refine Q5 ?_ _|refine Q7 ?_|refine Q3 ?_ _));refine Qx ?_ JJ.out _;(with_reducible repeat (first|refine Q5 ?_ _|refine Q7 ?_|refine Q3 ?_ _));refine Qx ?_ JJ.out _;(with_reducible repeat (first|refine Q5 ?_ _|refine Q7 ?_|refine Q3 ?_ _));exact Zl.out⟩,⟨by repeat (first|(with_reducible first|exact HB.out|apply Q2|apply Q1|apply Q4|refine Q8 ?_ JH.out|refine Q8 ?_ qdT.out)|exact HB.out)⟩⟩
    rw [if_neg c7] at H
    exact absurd H (by simp)
   rw [if_neg c6] at H
   exact absurd H (by simp)
  rw [if_neg c5] at H
  have c5b0:decide (ZT<(l0.length:Int))=false:=decide_eq_false c5
  clear c5
  by_cases c22:UU=true
  ·
   subst c22
   have H1:((Qt.f a1 0 20).bind fun t107=>(if t107=true then ((Qt.f a2 a1 20).bind fun qmx=>(QY.j1 k1 l0 a1 a2 (!qmx))) else (QY.j1 k1 l0 a1 a2 true)))=some (r1,r2,r3):=by rw [if_pos rfl] at H;exact H
   clear H
   have H:=H1
   clear H1
   have qhc:=Q0.mk H
   clear H
   go_upto_region 9 with (fail)
   go_cut [46] (fun v46 wc => ∃ (kq:Nat) (qfy:Bool),v46 = .bool qfy∧Q0 (QY.j1 kq l0 a1 a2 qfy=some (r1,r2,r3))∧Q0 (kq≤k1)∧Q0 (wc.heap[Jd]? = some (.cells #[.int .i64 0,.int .i64 0] 25 (0,0)))∧Q0 (Below w.heap.size w wc))
   case first =>
    have H:=qhc.out;clear qhc;replace H:=Option.bind_eq_some_iff.mp H;obtain ⟨t107,qkR,H⟩:=H;replace H:(if t107=true then ((Qt.f a2 a1 20).bind fun qmx=>(QY.j1 k1 l0 a1 a2 (!qmx))) else (QY.j1 k1 l0 a1 a2 true))=some (r1,r2,r3):=H;have A24:=Q0.mk qkR;clear qkR
    by_cases c25:t107=true
    ·
     subst c25
     have H1:((Qt.f a2 a1 20).bind fun qmx=>(QY.j1 k1 l0 a1 a2 (!qmx)))=some (r1,r2,r3):=by rw [if_pos rfl] at H;exact H
     clear H;have H:=H1;clear H1;replace H:=Option.bind_eq_some_iff.mp H;obtain ⟨qmx,qrB,H⟩:=H;replace H:(QY.j1 k1 l0 a1 a2 (!qmx))=some (r1,r2,r3):=H;have A26:=Q0.mk qrB;clear qrB;have H':=Q0.mk H;clear H
     go_wp2_with (first|((with_reducible refine QF (f:=65) rfl ?_);refine YE (some 39) rfl rfl Try.func65 (by kernel_rfl) rfl #[.int .i64 a1,.int .i64 0,.int .i64 20] rfl (by (try simp only [List.map_toArray,List.map_cons,List.map_nil]);first|done|rfl|(simp only [List.length_drop,List.length_take];rfl)) ?_;(with_reducible refine (Qt.calls a1 0 20 true _ A24.out).mono ?_);rintro e w' ⟨rfl,⟨nd,rfl⟩⟩;refine ⟨_,rfl,?_⟩)|(go_at_call 65;(with_reducible refine (Qt.calls a2 a1 20 qmx _ A26.out).mono ?_);rintro e w' ⟨rfl,⟨nd,rfl⟩⟩))
     go_meet
     case rel=>exact ⟨_,(!qmx),(by first|rfl|(simp;done)|(simp [*];done)),H',⟨by have:=HK1.out;first|omega|exact Nat.le_refl _⟩,⟨by (with_reducible repeat (first|refine Q5 ?_ _|refine Q7 ?_|refine Q3 ?_ _));exact Zl.out⟩,⟨by repeat (first|(with_reducible first|exact HB.out|apply Q2|apply Q1|apply Q4|refine Q8 ?_ JH.out)|exact HB.out)⟩⟩
    replace c25:=Bool.eq_false_iff.mpr c25;subst c25
    have H1:(QY.j1 k1 l0 a1 a2 true)=some (r1,r2,r3):=by rw [if_neg (show ¬ (false=true) by decide)] at H;exact H
    clear H;have H:=H1;clear H1;have H':=Q0.mk H;clear H
    go_wp2_with (first|((with_reducible refine QF (f:=65) rfl ?_);refine YE (some 39) rfl rfl Try.func65 (by kernel_rfl) rfl #[.int .i64 a1,.int .i64 0,.int .i64 20] rfl (by (try simp only [List.map_toArray,List.map_cons,List.map_nil]);first|done|rfl|(simp only [List.length_drop,List.length_take];rfl)) ?_;(with_reducible refine (Qt.calls a1 0 20 false _ A24.out).mono ?_);rintro e w' ⟨rfl,⟨nd,rfl⟩⟩;refine ⟨_,rfl,?_⟩))
    go_meet
    case rel=>exact ⟨_,(true),(by first|rfl|(simp;done)|(simp [*];done)),H',⟨by have:=HK1.out;first|omega|exact Nat.le_refl _⟩,⟨by (with_reducible repeat (first|refine Q5 ?_ _|refine Q7 ?_|refine Q3 ?_ _));exact Zl.out⟩,⟨by repeat (first|(with_reducible first|exact HB.out|apply Q2|apply Q1|apply Q4|refine Q8 ?_ JH.out)|exact HB.out)⟩⟩
   clear qhc
   try clear c1
   try clear p1
   try clear q1
   try clear hx1
   try clear c2
   try clear p2
   try clear c5
   try clear c5b0
   try clear c6
   try clear c6b0
   try clear p6
   try clear c7
   try clear c7b0
   try clear c8
   try clear c10
   try clear p10
   try clear q10
   try clear qu0
   try clear c13
   try clear c17
   try clear c19
   try clear c20
   try clear c22
   try clear c25
   try clear Uf
   try clear Ug
   try clear Uh
   try clear Ul
   try clear Um
   try clear Un
   try clear OJ
   try clear OK
   try clear OL
   try clear Ur
   try clear Us
   try clear Ut
   try clear Ux
   try clear Uy
   try clear Uz
   try clear OO
   try clear OP
   try clear OQ
   try clear GF
   try clear GG
   try clear GH
   try clear qa1
   try clear p2
   try clear qa2
   obtain ⟨kq,qfy,rfl,HA,UQ,Zl,HB⟩:=hcut
   cases kq with
   | zero=>exact absurd HA.out (by simp [QY.j1])
   | succ WE =>
    have H:=HA.out;clear HA;simp only [QY.j1] at H
    by_cases c27:qfy=true
    ·
     subst c27
     have H1:(some (0,0,7))=some (r1,r2,r3):=by rw [if_pos rfl] at H;exact H
     clear H;have H:=H1;clear H1;simp only [Option.some.injEq,Prod.mk.injEq] at H;obtain ⟨rfl,rfl,rfl⟩:=H;have qew:wc.cell? ⟨Jd,0,none⟩=some (.int .i64 0):=(Q9 Zl.out 0).trans rfl;have qex:wc.cell? ⟨Jd,1,none⟩=some (.int .i64 0):=(Q9 Zl.out 1).trans rfl;have qeK:=Qa Zl.out 0;have qeL:=Qa Zl.out 1
     go_wp2
     refine bodyPost_ret (XF rfl _ _ Jd 25 #[.int .i64 0,.int .i64 0] (0,0) _ rfl (by (with_reducible repeat (first|refine Q5 ?_ _|refine Q7 ?_|refine Q3 ?_ _));refine QG (cs:=#[.int .i64 0,.int .i64 0]) ?_ 1 _ rfl;(with_reducible repeat (first|refine Q5 ?_ _|refine Q7 ?_|refine Q3 ?_ _));refine QG (cs:=#[.int .i64 0,.int .i64 0]) ?_ 0 _ rfl;(with_reducible repeat (first|refine Q5 ?_ _|refine Q7 ?_|refine Q3 ?_ _));exact Zl.out) Try.underlying25 rfl (by kernel_rfl)) rfl ?_
     exact ⟨by first|rfl|(simp [QC,QD]<;>rfl)|(simp [*,QC,QD]<;>rfl),by repeat (first|(with_reducible first|exact HB.out|apply Q2|apply Q1|apply Q4|refine Q8 ?_ JH.out)|exact HB.out)⟩
    replace c27:=Bool.eq_false_iff.mpr c27;subst c27
    have H1:(QY.l1 WE a1 a2 l0 (l0.length:Int) 0 0 0)=some (r1,r2,r3):=by rw [if_neg (show ¬ (false=true) by decide)] at H;exact H
    clear H;have H:=H1;clear H1;have H':=Q0.mk H;clear H
    go_wp2_with (first|((with_reducible refine Y0 (N:=11) rfl ?_);refine Yv ?hg (N:=11) ?hd (cs:=#[.int .i64 0,.int .i64 0]) (t:=25) ?hr ?_;(case hd=>rfl);(case hg=>rfl);(case hr=>first|(go_simp;done)|(go_simp;rfl));intro Kl hg w29 hbox hb;have n0_:=Q0.mk (Qp (g:=Jd) (by (with_reducible repeat (first|refine Q5 ?_ _|refine Q7 ?_|refine Q3 ?_ _));exact Zl.out) hb);have n1_:=Q0.mk (Qv (by repeat (first|(with_reducible first|exact HB.out|apply Q2|apply Q1|apply Q4|refine Q8 ?_ JH.out)|exact HB.out)) hb);have n2_:=Q0.mk (hbox);have n3_:=Q0.mk ((by rw [hg];exact (Qn (by repeat (first|(with_reducible first|exact HB.out|apply Q2|apply Q1|apply Q4|refine Q8 ?_ JH.out)|exact HB.out))):w.heap.size≤Kl));have n4_:=n3_;have n5_:=Q0.mk ((by rw [hg];exact Nat.ne_of_lt (QT (g:=Jd) (by (with_reducible repeat (first|refine Q5 ?_ _|refine Q7 ?_|refine Q3 ?_ _));exact Zl.out)):Jd≠Kl));have n6_:=Q0.mk (n5_.out.symm);clear Zl HB;have Zl:=n0_;have HB:=n1_;have Jv:=n2_;have qC6:=n3_;have UX:=n4_;have Gs:=n5_;have W5:=n6_;clear n0_ n1_ n2_ n3_ n4_ n5_ n6_ hb hbox hg))
    go_loopg [50] WE (fun kq v50 w' => ∃ (YM:Int) (Z1:Int) (Z4:Int),v50 = .int .i64 YM∧Q0 (QY.l1 kq a1 a2 l0 (l0.length:Int) YM Z1 Z4=some (r1,r2,r3))∧Q0 (kq≤WE)∧Q0 (w'.heap[Jd]? = some (.cells #[.int .i64 0,.int .i64 0] 25 (0,0)))∧Q0 (w'.heap[Kl]? = some (.cells #[.int .i64 Z1,.int .i64 Z4] 25 (0,0)))∧Q0 (Below w.heap.size w w'))
    case atStart=>exact ⟨(0),(0),(0),(by first|rfl|(simp;done)|(simp [*];done)),H',⟨Nat.le_refl _⟩,⟨by (with_reducible repeat (first|refine Q5 ?_ _|refine Q7 ?_|refine Q3 ?_ _));exact Zl.out⟩,⟨by (with_reducible repeat (first|refine Q5 ?_ _|refine Q7 ?_|refine Q3 ?_ _));exact Jv.out⟩,⟨by repeat (first|(with_reducible first|exact HB.out|apply Q2|apply Q1|apply Q4|refine Q8 ?_ JH.out|refine Q8 ?_ UX.out)|exact HB.out)⟩⟩
    clear H';(try clear c1);(try clear p1);(try clear q1);(try clear hx1);(try clear c2);(try clear p2);(try clear c5);(try clear c5b0);(try clear c6);(try clear c6b0);(try clear p6);(try clear c7);(try clear c7b0);(try clear c8);(try clear c10);(try clear p10);(try clear q10);(try clear qu0);(try clear c13);(try clear c17);(try clear c19);(try clear c20);(try clear c22);(try clear c25);(try clear c27);(try clear Uf);(try clear Ug);(try clear Uh);(try clear Ul);(try clear Um);(try clear Un);(try clear OJ);(try clear OK);(try clear OL);(try clear qew);(try clear qex);(try clear Ur);(try clear Us);(try clear Ut);(try clear Ux);(try clear Uy);(try clear Uz);(try clear OO);(try clear OP);(try clear OQ);(try clear qeK);(try clear qeL);(try clear GF);(try clear GG);(try clear GH);(try clear p1);(try clear p10);(try clear qa1);(try clear p2);(try clear p6);(try clear q1);(try clear q10);(try clear qa2);obtain ⟨YM,Z1,Z4,rfl,HA,HK3,Zl,Jv,HB⟩:=hrel
    cases gk with
    | zero=>exact absurd HA.out (by simp [QY.l1])
    | succ k3 =>
     have H:=HA.out;clear HA;simp only [QY.l1] at H
     by_cases c30:YM<(l0.length:Int)
     ·
      rw [if_pos c30] at H;have c30b0:decide (YM<(l0.length:Int))=true:=decide_eq_true c30;clear c30
      by_cases c31:0≤YM
      ·
       rw [if_pos c31] at H;have c31b0:decide (0≤YM)=true:=decide_eq_true c31;clear c31
       by_cases c32:YM<(l0.length:Int)
       ·
        rw [if_pos c32] at H;have c32b0:decide (YM<(l0.length:Int))=true:=decide_eq_true c32;clear c32;have qqj:=Q0.mk H;clear H;have qoI:0≤(YM:Int):=of_decide_eq_true (by first|(with_reducible assumption)|assumption);have qoQ:YM<(l0.length:Int):=of_decide_eq_true (by first|(with_reducible assumption)|assumption);obtain ⟨qDm,qBj,qcw,qcx,qcy⟩:=qej HR0.out YM qoI qoQ;cases qBj;replace qcw:=(HB.out.cell (World.block_lt_of_cell? w _ qcw)).trans qcw;replace qcx:=(HB.out.cell (World.block_lt_of_cell? w _ qcx)).trans qcx;replace qcy:=(HB.out.cell (World.block_lt_of_cell? w _ qcy)).trans qcy;replace qoI:=eq_true qoI;replace qoQ:=eq_true qoQ
        go_upto_region 15 with (first|((with_reducible refine Y0 (N:=13) rfl ?_);refine Yv ?hg (N:=13) ?hd (cs:=#[.int .i64 0,.int .i64 0,.int .i64 0]) (t:=68) ?hr ?_;(case hd=>rfl);(case hg=>rfl);(case hr=>first|(go_simp;done)|(go_simp;rfl));intro JM hg w34 hbox hb;have n0_:=Q0.mk (Qp (g:=Jd) (by (with_reducible repeat (first|refine Q5 ?_ _|refine Q7 ?_|refine Q3 ?_ _));exact Zl.out) hb);have n1_:=Q0.mk (Qp (g:=Kl) (by (with_reducible repeat (first|refine Q5 ?_ _|refine Q7 ?_|refine Q3 ?_ _));exact Jv.out) hb);have n2_:=Q0.mk (Qv (by repeat (first|(with_reducible first|exact HB.out|apply Q2|apply Q1|apply Q4|refine Q8 ?_ JH.out|refine Q8 ?_ UX.out)|exact HB.out)) hb);have n3_:=Q0.mk (hbox);have n4_:=Q0.mk ((by rw [hg];exact (Qn (by repeat (first|(with_reducible first|exact HB.out|apply Q2|apply Q1|apply Q4|refine Q8 ?_ JH.out|refine Q8 ?_ UX.out)|exact HB.out))):w.heap.size≤JM));have n5_:=n4_;have n6_:=Q0.mk ((by rw [hg];exact Nat.ne_of_lt (QT (g:=Jd) (by (with_reducible repeat (first|refine Q5 ?_ _|refine Q7 ?_|refine Q3 ?_ _));exact Zl.out)):Jd≠JM));have n7_:=Q0.mk (n6_.out.symm);have n8_:=Q0.mk ((by rw [hg];exact Nat.ne_of_lt (QT (g:=Kl) (by (with_reducible repeat (first|refine Q5 ?_ _|refine Q7 ?_|refine Q3 ?_ _));exact Jv.out)):Kl≠JM));have n9_:=Q0.mk (n8_.out.symm);clear Zl Jv HB;have Zl:=n0_;have Jv:=n1_;have HB:=n2_;have ZA:=n3_;have qC7:=n4_;have qbt:=n5_;have Js:=n6_;have GX:=n7_;have Jt:=n8_;have GY:=n9_;clear n0_ n1_ n2_ n3_ n4_ n5_ n6_ n7_ n8_ n9_ hb hbox hg;have qux:=GX.out;have quL:=Js.out;have quy:=GY.out;have quM:=Jt.out;have qnv:w34.cell? ⟨JM,0,none⟩=some (.int .i64 0):=(Q9 ZA.out 0).trans rfl;have qnw:w34.cell? ⟨JM,1,none⟩=some (.int .i64 0):=(Q9 ZA.out 1).trans rfl;have qnx:w34.cell? ⟨JM,2,none⟩=some (.int .i64 0):=(Q9 ZA.out 2).trans rfl;have qn7:=Qa ZA.out 0;have qn8:=Qa ZA.out 1;have qn9:=Qa ZA.out 2))
        (try simp only [Qf,Qb,Qe,Qd,Qc])
        go_cut [65] (fun v65 wc => ∃ (kq:Nat) (qfA:Bool),v65 = .bool qfA∧Q0 (QY.j3 kq a1 a2 l0 (l0.length:Int) YM qfA Z1 Z4 ((Yh l0 YM).f0) ((Yh l0 YM).f1.f0) ((Yh l0 YM).f1.f1)=some (r1,r2,r3))∧Q0 (kq≤k3)∧Q0 (wc.heap[Jd]? = some (.cells #[.int .i64 0,.int .i64 0] 25 (0,0)))∧Q0 (wc.heap[Kl]? = some (.cells #[.int .i64 Z1,.int .i64 Z4] 25 (0,0)))∧Q0 (wc.heap[JM]? = some (.cells #[.int .i64 ((Yh l0 YM).f0),.int .i64 ((Yh l0 YM).f1.f0),.int .i64 ((Yh l0 YM).f1.f1)] 68 (0,0)))∧Q0 (Below w.heap.size w wc))
        case first =>
         have H:=qqj.out;clear qqj
         by_cases c38:a1≤((Yh l0 YM).f1.f0)
         ·
          rw [if_pos c38] at H;have c38b0:decide (a1≤((Yh l0 YM).f1.f0))=true:=decide_eq_true c38;clear c38
          (first|rw [c38b0]|(simp only [Qk,Qm];rw [c38b0])|skip)
          have H':=Q0.mk H;clear H;have qp1:=GX.out;have qp2:=Js.out;have quz:=GY.out;have quN:=Jt.out;have qiV:w34.cell? ⟨JM,0,none⟩=some (.int .i64 0):=(Q9 ZA.out 0).trans rfl;have qiW:w34.cell? ⟨JM,1,none⟩=some (.int .i64 0):=(Q9 ZA.out 1).trans rfl;have qiX:w34.cell? ⟨JM,2,none⟩=some (.int .i64 0):=(Q9 ZA.out 2).trans rfl;have qi0:=Qa ZA.out 0;have qi2:=Qa ZA.out 1;have qi3:=Qa ZA.out 2
          go_wp2
          go_meet
          case rel=>exact ⟨_,(decide (((Yh l0 YM).f1.f1)≤a2)),(by first|rfl|(simp;done)|(simp [*];done)),H',⟨by have:=HK1.out;have:=UQ.out;have:=HK3.out;first|omega|exact Nat.le_refl _⟩,⟨by (with_reducible repeat (first|refine Q5 ?_ _|refine Q7 ?_|refine Q3 ?_ _));refine Qx ?_ Js.out _;(with_reducible repeat (first|refine Q5 ?_ _|refine Q7 ?_|refine Q3 ?_ _));refine Qx ?_ Js.out _;(with_reducible repeat (first|refine Q5 ?_ _|refine Q7 ?_|refine Q3 ?_ _));refine Qx ?_ Js.out _;(with_reducible repeat (first|refine Q5 ?_ _|refine Q7 ?_|refine Q3 ?_ _));exact Zl.out⟩,⟨by (with_reducible repeat (first|refine Q5 ?_ _|refine Q7 ?_|refine Q3 ?_ _));refine Qx ?_ Jt.out _;(with_reducible repeat (first|refine Q5 ?_ _|refine Q7 ?_|refine Q3 ?_ _));refine Qx ?_ Jt.out _;(with_reducible repeat (first|refine Q5 ?_ _|refine Q7 ?_|refine Q3 ?_ _));refine Qx ?_ Jt.out _;(with_reducible repeat (first|refine Q5 ?_ _|refine Q7 ?_|refine Q3 ?_ _));exact Jv.out⟩,⟨by (with_reducible repeat (first|refine Q5 ?_ _|refine Q7 ?_|refine Q3 ?_ _));refine QG (cs:=#[.int .i64 ((Yh l0 YM).f0),.int .i64 ((Yh l0 YM).f1.f0),.int .i64 0]) ?_ 2 _ rfl;(with_reducible repeat (first|refine Q5 ?_ _|refine Q7 ?_|refine Q3 ?_ _));refine QG (cs:=#[.int .i64 ((Yh l0 YM).f0),.int .i64 0,.int .i64 0]) ?_ 1 _ rfl;(with_reducible repeat (first|refine Q5 ?_ _|refine Q7 ?_|refine Q3 ?_ _));refine QG (cs:=#[.int .i64 0,.int .i64 0,.int .i64 0]) ?_ 0 _ rfl;(with_reducible repeat (first|refine Q5 ?_ _|refine Q7 ?_|refine Q3 ?_ _));exact ZA.out⟩,⟨by repeat (first|(with_reducible first|exact HB.out|apply Q2|apply Q1|apply Q4|refine Q8 ?_ JH.out|refine Q8 ?_ UX.out|refine Q8 ?_ qbt.out)|exact HB.out)⟩⟩
         rw [if_neg c38] at H;have c38b0:decide (a1≤((Yh l0 YM).f1.f0))=false:=decide_eq_false c38;clear c38
         (first|rw [c38b0]|(simp only [Qk,Qm];rw [c38b0])|skip)
         have H':=Q0.mk H;clear H;have quA:=GX.out;have quO:=Js.out;have qEk:=GY.out;have qEW:=Jt.out;have qnE:w34.cell? ⟨JM,0,none⟩=some (.int .i64 0):=(Q9 ZA.out 0).trans rfl;have qnF:w34.cell? ⟨JM,1,none⟩=some (.int .i64 0):=(Q9 ZA.out 1).trans rfl;have qnG:w34.cell? ⟨JM,2,none⟩=some (.int .i64 0):=(Q9 ZA.out 2).trans rfl;have qog:=Qa ZA.out 0;have qoh:=Qa ZA.out 1;have qoi:=Qa ZA.out 2
         go_wp2
         go_meet
         case rel=>exact ⟨_,(false),(by first|rfl|(simp;done)|(simp [*];done)),H',⟨by have:=HK1.out;have:=UQ.out;have:=HK3.out;first|omega|exact Nat.le_refl _⟩,⟨by (with_reducible repeat (first|refine Q5 ?_ _|refine Q7 ?_|refine Q3 ?_ _));refine Qx ?_ Js.out _;(with_reducible repeat (first|refine Q5 ?_ _|refine Q7 ?_|refine Q3 ?_ _));refine Qx ?_ Js.out _;(with_reducible repeat (first|refine Q5 ?_ _|refine Q7 ?_|refine Q3 ?_ _));refine Qx ?_ Js.out _;(with_reducible repeat (first|refine Q5 ?_ _|refine Q7 ?_|refine Q3 ?_ _));exact Zl.out⟩,⟨by (with_reducible repeat (first|refine Q5 ?_ _|refine Q7 ?_|refine Q3 ?_ _));refine Qx ?_ Jt.out _;(with_reducible repeat (first|refine Q5 ?_ _|refine Q7 ?_|refine Q3 ?_ _));refine Qx ?_ Jt.out _;(with_reducible repeat (first|refine Q5 ?_ _|refine Q7 ?_|refine Q3 ?_ _));refine Qx ?_ Jt.out _;(with_reducible repeat (first|refine Q5 ?_ _|refine Q7 ?_|refine Q3 ?_ _));exact Jv.out⟩,⟨by (with_reducible repeat (first|refine Q5 ?_ _|refine Q7 ?_|refine Q3 ?_ _));refine QG (cs:=#[.int .i64 ((Yh l0 YM).f0),.int .i64 ((Yh l0 YM).f1.f0),.int .i64 0]) ?_ 2 _ rfl;(with_reducible repeat (first|refine Q5 ?_ _|refine Q7 ?_|refine Q3 ?_ _));refine QG (cs:=#[.int .i64 ((Yh l0 YM).f0),.int .i64 0,.int .i64 0]) ?_ 1 _ rfl;(with_reducible repeat (first|refine Q5 ?_ _|refine Q7 ?_|refine Q3 ?_ _));refine QG (cs:=#[.int .i64 0,.int .i64 0,.int .i64 0]) ?_ 0 _ rfl;(with_reducible repeat (first|refine Q5 ?_ _|refine Q7 ?_|refine Q3 ?_ _));exact ZA.out⟩,⟨by repeat (first|(with_reducible first|exact HB.out|apply Q2|apply Q1|apply Q4|refine Q8 ?_ JH.out|refine Q8 ?_ UX.out|refine Q8 ?_ qbt.out)|exact HB.out)⟩⟩
        clear qqj;(try clear c1);(try clear p1);(try clear q1);(try clear hx1);(try clear c2);(try clear p2);(try clear c3);(try clear c4);(try clear c5);(try clear c5b0);(try clear c6);(try clear c6b0);(try clear p6);(try clear c7);(try clear c7b0);(try clear c8);(try clear c10);(try clear p10);(try clear q10);(try clear qu0);(try clear p11);(try clear q11);(try clear qGN);(try clear c13);(try clear c17);(try clear c19);(try clear c20);(try clear c22);(try clear c25);(try clear c27);(try clear c30);(try clear c30b0);(try clear c31);(try clear c31b0);(try clear c32);(try clear c32b0);(try clear c35);(try clear c36);(try clear c38);(try clear c38b0);(try clear c39);(try clear c40);(try clear c42);(try clear c43);(try clear Uf);(try clear Ug);(try clear Uh);(try clear Ul);(try clear Um);(try clear Un);(try clear OJ);(try clear OK);(try clear OL);(try clear qew);(try clear qex);(try clear qnv);(try clear qnw);(try clear qnx);(try clear qiV);(try clear qiW);(try clear qiX);(try clear qnE);(try clear qnF);(try clear qnG);(try clear Ur);(try clear Us);(try clear Ut);(try clear Ux);(try clear Uy);(try clear Uz);(try clear OO);(try clear OP);(try clear OQ);(try clear qeK);(try clear qeL);(try clear qn7);(try clear qn8);(try clear qn9);(try clear qi0);(try clear qi2);(try clear qi3);(try clear qog);(try clear qoh);(try clear qoi);(try clear GF);(try clear GG);(try clear GH);(try clear qcw);(try clear qcx);(try clear qcy);(try clear p1);(try clear p10);(try clear qa1);(try clear qoI);(try clear p2);(try clear p6);(try clear q1);(try clear q10);(try clear qa2);(try clear qoQ);obtain ⟨kq,qfA,rfl,HA,qbN,Zl,Jv,ZA,HB⟩:=hcut
        cases kq with
        | zero=>exact absurd HA.out (by simp [QY.j3])
        | succ qbO =>
         have H:=HA.out;clear HA;simp only [QY.j3] at H
         by_cases c45:qfA=true
         ·
          subst c45
          have H1:(if a1≤((Yh l0 YM).f1.f1) then (if ((Yh l0 YM).f1.f0)≤a2 then (QY.l1 qbO a1 a2 l0 (l0.length:Int) (wrap64 (YM+1)) (wrap64 (Z1+((Yh l0 YM).f0))) (wrap64 (Z4+((Yh l0 YM).f0)))) else (QY.l1 qbO a1 a2 l0 (l0.length:Int) (wrap64 (YM+1)) (wrap64 (Z1+((Yh l0 YM).f0))) Z4)) else (QY.l1 qbO a1 a2 l0 (l0.length:Int) (wrap64 (YM+1)) (wrap64 (Z1+((Yh l0 YM).f0))) Z4))=some (r1,r2,r3):=by rw [if_pos rfl] at H;exact H
          clear H;have H:=H1;clear H1
          by_cases c46:a1≤((Yh l0 YM).f1.f1)
          ·
           rw [if_pos c46] at H;have c46b0:decide (a1≤((Yh l0 YM).f1.f1))=true:=decide_eq_true c46;clear c46
           by_cases c47:((Yh l0 YM).f1.f0)≤a2
           ·
            rw [if_pos c47] at H;have c47b0:decide (((Yh l0 YM).f1.f0)≤a2)=true:=decide_eq_true c47;clear c47;have H':=Q0.mk H;clear H;have quB:=W5.out;have quP:=Gs.out;have quC:=Jt.out;have quQ:=GY.out;have qnH:wc.cell? ⟨Kl,0,none⟩=some (.int .i64 Z1):=(Q9 Jv.out 0).trans rfl;have qnI:wc.cell? ⟨Kl,1,none⟩=some (.int .i64 Z4):=(Q9 Jv.out 1).trans rfl;have qoj:=Qa Jv.out 0;have qok:=Qa Jv.out 1;have qEn:=GX.out;have qEZ:=Js.out;have qv0:wc.cell? ⟨JM,0,none⟩=some (.int .i64 ((Yh l0 YM).f0)):=(Q9 ZA.out 0).trans rfl;have qv1:wc.cell? ⟨JM,1,none⟩=some (.int .i64 ((Yh l0 YM).f1.f0)):=(Q9 ZA.out 1).trans rfl;have qv2:wc.cell? ⟨JM,2,none⟩=some (.int .i64 ((Yh l0 YM).f1.f1)):=(Q9 ZA.out 2).trans rfl;have qxZ:=Qa ZA.out 0;have qx0:=Qa ZA.out 1;have qx1:=Qa ZA.out 2
            go_wp2
            go_roundg qbO
            case measure=>have:=HK1.out;have:=UQ.out;have:=HK3.out;have:=qbN.out;omega
            case rel=>exact ⟨(wrap64 (YM+1)),(wrap64 (Z1+((Yh l0 YM).f0))),(wrap64 (Z4+((Yh l0 YM).f0))),(by first|rfl|(simp;done)|(simp [*];done)),H',⟨by have:=HK1.out;have:=UQ.out;have:=HK3.out;have:=qbN.out;omega⟩,⟨by (with_reducible repeat (first|refine Q5 ?_ _|refine Q7 ?_|refine Q3 ?_ _));refine Qx ?_ Gs.out _;(with_reducible repeat (first|refine Q5 ?_ _|refine Q7 ?_|refine Q3 ?_ _));refine Qx ?_ Gs.out _;(with_reducible repeat (first|refine Q5 ?_ _|refine Q7 ?_|refine Q3 ?_ _));exact Zl.out⟩,⟨by (with_reducible repeat (first|refine Q5 ?_ _|refine Q7 ?_|refine Q3 ?_ _));refine QG (cs:=#[.int .i64 (wrap64 (Z1+((Yh l0 YM).f0))),.int .i64 Z4]) ?_ 1 _ rfl;(with_reducible repeat (first|refine Q5 ?_ _|refine Q7 ?_|refine Q3 ?_ _));refine QG (cs:=#[.int .i64 Z1,.int .i64 Z4]) ?_ 0 _ rfl;(with_reducible repeat (first|refine Q5 ?_ _|refine Q7 ?_|refine Q3 ?_ _));exact Jv.out⟩,⟨by repeat (first|(with_reducible first|exact HB.out|apply Q2|apply Q1|apply Q4|refine Q8 ?_ JH.out|refine Q8 ?_ UX.out|refine Q8 ?_ qbt.out)|exact HB.out)⟩⟩
           rw [if_neg c47] at H;have c47b0:decide (((Yh l0 YM).f1.f0)≤a2)=false:=decide_eq_false c47;clear c47;have H':=Q0.mk H;clear H;have qEo:=W5.out;have qE0:=Gs.out;have qEp:=Jt.out;have qE1:=GY.out;have qv3:wc.cell? ⟨Kl,0,none⟩=some (.int .i64 Z1):=(Q9 Jv.out 0).trans rfl;have qv4:wc.cell? ⟨Kl,1,none⟩=some (.int .i64 Z4):=(Q9 Jv.out 1).trans rfl;have qx2:=Qa Jv.out 0;have qx3:=Qa Jv.out 1;have qEq:=GX.out;have qE2:=Js.out;have qv5:wc.cell? ⟨JM,0,none⟩=some (.int .i64 ((Yh l0 YM).f0)):=(Q9 ZA.out 0).trans rfl;have qv6:wc.cell? ⟨JM,1,none⟩=some (.int .i64 ((Yh l0 YM).f1.f0)):=(Q9 ZA.out 1).trans rfl;have qv7:wc.cell? ⟨JM,2,none⟩=some (.int .i64 ((Yh l0 YM).f1.f1)):=(Q9 ZA.out 2).trans rfl;have qx4:=Qa ZA.out 0;have qx5:=Qa ZA.out 1;have qx6:=Qa ZA.out 2
           go_wp2
           go_roundg qbO
           case measure=>have:=HK1.out;have:=UQ.out;have:=HK3.out;have:=qbN.out;omega
           case rel=>exact ⟨(wrap64 (YM+1)),(wrap64 (Z1+((Yh l0 YM).f0))),(Z4),(by first|rfl|(simp;done)|(simp [*];done)),H',⟨by have:=HK1.out;have:=UQ.out;have:=HK3.out;have:=qbN.out;omega⟩,⟨by (with_reducible repeat (first|refine Q5 ?_ _|refine Q7 ?_|refine Q3 ?_ _));refine Qx ?_ Gs.out _;(with_reducible repeat (first|refine Q5 ?_ _|refine Q7 ?_|refine Q3 ?_ _));exact Zl.out⟩,⟨by (with_reducible repeat (first|refine Q5 ?_ _|refine Q7 ?_|refine Q3 ?_ _));refine QG (cs:=#[.int .i64 Z1,.int .i64 Z4]) ?_ 0 _ rfl;(with_reducible repeat (first|refine Q5 ?_ _|refine Q7 ?_|refine Q3 ?_ _));exact Jv.out⟩,⟨by repeat (first|(with_reducible first|exact HB.out|apply Q2|apply Q1|apply Q4|refine Q8 ?_ JH.out|refine Q8 ?_ UX.out|refine Q8 ?_ qbt.out)|exact HB.out)⟩⟩
          rw [if_neg c46] at H;have c46b0:decide (a1≤((Yh l0 YM).f1.f1))=false:=decide_eq_false c46;clear c46;have H':=Q0.mk H;clear H;have quD:=W5.out;have quR:=Gs.out;have quE:=Jt.out;have quS:=GY.out;have qv8:wc.cell? ⟨Kl,0,none⟩=some (.int .i64 Z1):=(Q9 Jv.out 0).trans rfl;have qv9:wc.cell? ⟨Kl,1,none⟩=some (.int .i64 Z4):=(Q9 Jv.out 1).trans rfl;have qx7:=Qa Jv.out 0;have qx8:=Qa Jv.out 1;have qEs:=GX.out;have qE4:=Js.out;have qwb:wc.cell? ⟨JM,0,none⟩=some (.int .i64 ((Yh l0 YM).f0)):=(Q9 ZA.out 0).trans rfl;have qwc:wc.cell? ⟨JM,1,none⟩=some (.int .i64 ((Yh l0 YM).f1.f0)):=(Q9 ZA.out 1).trans rfl;have qwd:wc.cell? ⟨JM,2,none⟩=some (.int .i64 ((Yh l0 YM).f1.f1)):=(Q9 ZA.out 2).trans rfl;have qya:=Qa ZA.out 0;have qyb:=Qa ZA.out 1;have qyc:=Qa ZA.out 2
          go_wp2
          go_roundg qbO
          case measure=>have:=HK1.out;have:=UQ.out;have:=HK3.out;have:=qbN.out;omega
          case rel=>exact ⟨(wrap64 (YM+1)),(wrap64 (Z1+((Yh l0 YM).f0))),(Z4),(by first|rfl|(simp;done)|(simp [*];done)),H',⟨by have:=HK1.out;have:=UQ.out;have:=HK3.out;have:=qbN.out;omega⟩,⟨by (with_reducible repeat (first|refine Q5 ?_ _|refine Q7 ?_|refine Q3 ?_ _));refine Qx ?_ Gs.out _;(with_reducible repeat (first|refine Q5 ?_ _|refine Q7 ?_|refine Q3 ?_ _));exact Zl.out⟩,⟨by (with_reducible repeat (first|refine Q5 ?_ _|refine Q7 ?_|refine Q3 ?_ _));refine QG (cs:=#[.int .i64 Z1,.int .i64 Z4]) ?_ 0 _ rfl;(with_reducible repeat (first|refine Q5 ?_ _|refine Q7 ?_|refine Q3 ?_ _));exact Jv.out⟩,⟨by repeat (first|(with_reducible first|exact HB.out|apply Q2|apply Q1|apply Q4|refine Q8 ?_ JH.out|refine Q8 ?_ UX.out|refine Q8 ?_ qbt.out)|exact HB.out)⟩⟩
         replace c45:=Bool.eq_false_iff.mpr c45;subst c45
         have H1:(if a1≤((Yh l0 YM).f1.f1) then (if ((Yh l0 YM).f1.f0)≤a2 then (QY.l1 qbO a1 a2 l0 (l0.length:Int) (wrap64 (YM+1)) Z1 (wrap64 (Z4+((Yh l0 YM).f0)))) else (QY.l1 qbO a1 a2 l0 (l0.length:Int) (wrap64 (YM+1)) Z1 Z4)) else (QY.l1 qbO a1 a2 l0 (l0.length:Int) (wrap64 (YM+1)) Z1 Z4))=some (r1,r2,r3):=by rw [if_neg (show ¬ (false=true) by decide)] at H;exact H
         clear H;have H:=H1;clear H1
         by_cases c63:a1≤((Yh l0 YM).f1.f1)
         ·
          rw [if_pos c63] at H;have c63b0:decide (a1≤((Yh l0 YM).f1.f1))=true:=decide_eq_true c63;clear c63
          by_cases c64:((Yh l0 YM).f1.f0)≤a2
          ·
           rw [if_pos c64] at H;have c64b0:decide (((Yh l0 YM).f1.f0)≤a2)=true:=decide_eq_true c64;clear c64;have H':=Q0.mk H;clear H;have quF:=GX.out;have quT:=Js.out;have qEv:=GY.out;have qE7:=Jt.out;have qwp:wc.cell? ⟨JM,0,none⟩=some (.int .i64 ((Yh l0 YM).f0)):=(Q9 ZA.out 0).trans rfl;have qwq:wc.cell? ⟨JM,1,none⟩=some (.int .i64 ((Yh l0 YM).f1.f0)):=(Q9 ZA.out 1).trans rfl;have qwr:wc.cell? ⟨JM,2,none⟩=some (.int .i64 ((Yh l0 YM).f1.f1)):=(Q9 ZA.out 2).trans rfl;have qyo:=Qa ZA.out 0;have qyp:=Qa ZA.out 1;have qyq:=Qa ZA.out 2;have qEw:=W5.out;have qE8:=Gs.out;have qws:wc.cell? ⟨Kl,0,none⟩=some (.int .i64 Z1):=(Q9 Jv.out 0).trans rfl;have qwt:wc.cell? ⟨Kl,1,none⟩=some (.int .i64 Z4):=(Q9 Jv.out 1).trans rfl;have qyr:=Qa Jv.out 0;have qys:=Qa Jv.out 1
           go_wp2
           go_roundg qbO
           case measure=>have:=HK1.out;have:=UQ.out;have:=HK3.out;have:=qbN.out;omega
           case rel=>exact ⟨(wrap64 (YM+1)),(Z1),(wrap64 (Z4+((Yh l0 YM).f0))),(by first|rfl|(simp;done)|(simp [*];done)),H',⟨by have:=HK1.out;have:=UQ.out;have:=HK3.out;have:=qbN.out;omega⟩,⟨by (with_reducible repeat (first|refine Q5 ?_ _|refine Q7 ?_|refine Q3 ?_ _));refine Qx ?_ Gs.out _;(with_reducible repeat (first|refine Q5 ?_ _|refine Q7 ?_|refine Q3 ?_ _));exact Zl.out⟩,⟨by (with_reducible repeat (first|refine Q5 ?_ _|refine Q7 ?_|refine Q3 ?_ _));refine QG (cs:=#[.int .i64 Z1,.int .i64 Z4]) ?_ 1 _ rfl;(with_reducible repeat (first|refine Q5 ?_ _|refine Q7 ?_|refine Q3 ?_ _));exact Jv.out⟩,⟨by repeat (first|(with_reducible first|exact HB.out|apply Q2|apply Q1|apply Q4|refine Q8 ?_ JH.out|refine Q8 ?_ UX.out|refine Q8 ?_ qbt.out)|exact HB.out)⟩⟩
          rw [if_neg c64] at H;have c64b0:decide (((Yh l0 YM).f1.f0)≤a2)=false:=decide_eq_false c64;clear c64;have H':=Q0.mk H;clear H;have quG:=GX.out;have quU:=Js.out;have quH:=GY.out;have quV:=Jt.out;have qwu:wc.cell? ⟨JM,0,none⟩=some (.int .i64 ((Yh l0 YM).f0)):=(Q9 ZA.out 0).trans rfl;have qwv:wc.cell? ⟨JM,1,none⟩=some (.int .i64 ((Yh l0 YM).f1.f0)):=(Q9 ZA.out 1).trans rfl;have qww:wc.cell? ⟨JM,2,none⟩=some (.int .i64 ((Yh l0 YM).f1.f1)):=(Q9 ZA.out 2).trans rfl;have qyt:=Qa ZA.out 0;have qyu:=Qa ZA.out 1;have qyv:=Qa ZA.out 2
          go_wp2
          go_roundg qbO
          case measure=>have:=HK1.out;have:=UQ.out;have:=HK3.out;have:=qbN.out;omega
          case rel=>exact ⟨(wrap64 (YM+1)),(Z1),(Z4),(by first|rfl|(simp;done)|(simp [*];done)),H',⟨by have:=HK1.out;have:=UQ.out;have:=HK3.out;have:=qbN.out;omega⟩,⟨by (with_reducible repeat (first|refine Q5 ?_ _|refine Q7 ?_|refine Q3 ?_ _));exact Zl.out⟩,⟨by (with_reducible repeat (first|refine Q5 ?_ _|refine Q7 ?_|refine Q3 ?_ _));exact Jv.out⟩,⟨by repeat (first|(with_reducible first|exact HB.out|apply Q2|apply Q1|apply Q4|refine Q8 ?_ JH.out|refine Q8 ?_ UX.out|refine Q8 ?_ qbt.out)|exact HB.out)⟩⟩
         rw [if_neg c63] at H;have c63b0:decide (a1≤((Yh l0 YM).f1.f1))=false:=decide_eq_false c63;clear c63;have H':=Q0.mk H;clear H;have qEz:=GX.out;have qFb:=Js.out;have qEA:=GY.out;have qFc:=Jt.out;have qnJ:wc.cell? ⟨JM,0,none⟩=some (.int .i64 ((Yh l0 YM).f0)):=(Q9 ZA.out 0).trans rfl;have qnK:wc.cell? ⟨JM,1,none⟩=some (.int .i64 ((Yh l0 YM).f1.f0)):=(Q9 ZA.out 1).trans rfl;have qnL:wc.cell? ⟨JM,2,none⟩=some (.int .i64 ((Yh l0 YM).f1.f1)):=(Q9 ZA.out 2).trans rfl;have qol:=Qa ZA.out 0;have qom:=Qa ZA.out 1;have qon:=Qa ZA.out 2
         go_wp2
         go_roundg qbO
         case measure=>have:=HK1.out;have:=UQ.out;have:=HK3.out;have:=qbN.out;omega
         case rel=>exact ⟨(wrap64 (YM+1)),(Z1),(Z4),(by first|rfl|(simp;done)|(simp [*];done)),H',⟨by have:=HK1.out;have:=UQ.out;have:=HK3.out;have:=qbN.out;omega⟩,⟨by (with_reducible repeat (first|refine Q5 ?_ _|refine Q7 ?_|refine Q3 ?_ _));exact Zl.out⟩,⟨by (with_reducible repeat (first|refine Q5 ?_ _|refine Q7 ?_|refine Q3 ?_ _));exact Jv.out⟩,⟨by repeat (first|(with_reducible first|exact HB.out|apply Q2|apply Q1|apply Q4|refine Q8 ?_ JH.out|refine Q8 ?_ UX.out|refine Q8 ?_ qbt.out)|exact HB.out)⟩⟩
       rw [if_neg c32] at H
       exact absurd H (by simp)
      rw [if_neg c31] at H
      exact absurd H (by simp)
     rw [if_neg c30] at H;have c30b0:decide (YM<(l0.length:Int))=false:=decide_eq_false c30;clear c30;simp only [Option.some.injEq,Prod.mk.injEq] at H;obtain ⟨rfl,rfl,rfl⟩:=H;have qEB:=W5.out;have qFd:=Gs.out;have qnM:wr.cell? ⟨Kl,0,none⟩=some (.int .i64 Z1):=(Q9 Jv.out 0).trans rfl;have qwL:wr.cell? ⟨Kl,1,none⟩=some (.int .i64 Z4):=(Q9 Jv.out 1).trans rfl;have qoo:=Qa Jv.out 0;have qyK:=Qa Jv.out 1;have qwM:wr.cell? ⟨Jd,0,none⟩=some (.int .i64 0):=(Q9 Zl.out 0).trans rfl;have qwN:wr.cell? ⟨Jd,1,none⟩=some (.int .i64 0):=(Q9 Zl.out 1).trans rfl;have qyL:=Qa Zl.out 0;have qyM:=Qa Zl.out 1
     go_wp2
     refine bodyPost_ret (XF rfl _ _ Jd 25 #[.int .i64 Z1,.int .i64 Z4] (0,0) _ rfl (by (with_reducible repeat (first|refine Q5 ?_ _|refine Q7 ?_|refine Q3 ?_ _));refine QG (cs:=#[.int .i64 Z1,.int .i64 0]) ?_ 1 _ rfl;(with_reducible repeat (first|refine Q5 ?_ _|refine Q7 ?_|refine Q3 ?_ _));refine QG (cs:=#[.int .i64 0,.int .i64 0]) ?_ 0 _ rfl;(with_reducible repeat (first|refine Q5 ?_ _|refine Q7 ?_|refine Q3 ?_ _));exact Zl.out) Try.underlying25 rfl (by kernel_rfl)) rfl ?_
     exact ⟨by first|rfl|(simp [QC,QD]<;>rfl)|(simp [*,QC,QD]<;>rfl),by repeat (first|(with_reducible first|exact HB.out|apply Q2|apply Q1|apply Q4|refine Q8 ?_ JH.out|refine Q8 ?_ UX.out)|exact HB.out)⟩
  replace c22:=Bool.eq_false_iff.mpr c22
  subst c22
  have H1:(some (0,0,90))=some (r1,r2,r3):=by rw [if_neg (show ¬ (false=true) by decide)] at H;exact H
  clear H
  have H:=H1
  clear H1
  simp only [Option.some.injEq,Prod.mk.injEq] at H
  obtain ⟨rfl,rfl,rfl⟩:=H
  have qwO:wr.cell? ⟨Jd,0,none⟩=some (.int .i64 0):=(Q9 Zl.out 0).trans rfl
  have qwP:wr.cell? ⟨Jd,1,none⟩=some (.int .i64 0):=(Q9 Zl.out 1).trans rfl
  have qyN:=Qa Zl.out 0
  have qyO:=Qa Zl.out 1
  go_wp2
  refine bodyPost_ret (XF rfl _ _ Jd 25 #[.int .i64 0,.int .i64 0] (0,0) _ rfl (by (with_reducible repeat (first|refine Q5 ?_ _|refine Q7 ?_|refine Q3 ?_ _));refine QG (cs:=#[.int .i64 0,.int .i64 0]) ?_ 1 _ rfl;(with_reducible repeat (first|refine Q5 ?_ _|refine Q7 ?_|refine Q3 ?_ _));refine QG (cs:=#[.int .i64 0,.int .i64 0]) ?_ 0 _ rfl;(with_reducible repeat (first|refine Q5 ?_ _|refine Q7 ?_|refine Q3 ?_ _));exact Zl.out) Try.underlying25 rfl (by kernel_rfl)) rfl ?_
  exact ⟨by first|rfl|(simp [QC,QD]<;>rfl)|(simp [*,QC,QD]<;>rfl),by repeat (first|(with_reducible first|exact HB.out|apply Q2|apply Q1|apply Q4|refine Q8 ?_ JH.out)|exact HB.out)⟩
end
section
attribute [local go_sem] YR YU Z8 Z9 YA YC YT YV
theorem qlD (d:Nat) (w:World) (x0 y0:Int) (x1 y1:Int) :
  (Op.equalIn (d+2) 25 (.agg #[.int .i64 x0,.int .i64 x1]) (.agg #[.int .i64 y0,.int .i64 y1])).run Try.prog w = .ok (x0==y0&&(x1==y1)) w:=by
 refine qlE Try.underlying25 (by kernel_rfl) ?_
 refine qlF (by rfl) (by go_simp;rfl) (by go_simp;rfl) (by go_simp) ?_
 exact qfT (by rfl) (by go_simp;rfl) (by go_simp;rfl) (by go_simp)
end
section
attribute [local go_sem] YR YU Z8 Z9 YA YC YT YV
attribute [local go_sem high] qlD
def YZ.l0:Nat→List (S25)→List (S25)→Int→Option (Bool)
 | 0,_,_,_=>none
 | k+1,x0,x1,x5=>if x5<(x0.length:Int) then (if 0≤x5 then (if x5<(x1.length:Int) then (if (!(((Qo x0 x5).f0)==((Qo x1 x5).f0))||(!(((Qo x0 x5).f1)==((Qo x1 x5).f1))))=true then (some false) else (YZ.l0 k x0 x1 (wrap64 (x5+1)))) else (none)) else (none)) else (some true)
def YZ.f (k:Nat) (l0:List (S25)) (l1:List (S25)):Option (Bool):=if (l0.length:Int)=(l1.length:Int) then (YZ.l0 k l0 l1 0) else (some false)
set_option maxHeartbeats 8000000 in
set_option maxRecDepth 100000 in
theorem YZ.calls (k:Nat) (A0:Option Addr) (c0:Nat) (l0:List (S25)) (A1:Option Addr) (c1:Nat) (l1:List (S25)) (r:Bool) (w:World) (hr0:Kd.C k25 w A0 l0.length l0) (hc0:l0.length≤c0) (hr1:Kd.C k25 w A1 l1.length l1) (hc1:l1.length≤c1) (h:YZ.f k l0 l1=some r) :
  Calls Try.prog 24 #[.slice A0 l0.length c0,.slice A1 l1.length c1] w fun e w'=>e = .returned (.bool r)∧YQ w w':=by
 have Xc:=Try.underlying25
 have HR0:=Q0.mk hr0
 have HC0:=Q0.mk hc0
 clear hr0 hc0
 have HR1:=Q0.mk hr1
 have HC1:=Q0.mk hc1
 clear hr1 hc1
 have H:(if (l0.length:Int)=(l1.length:Int) then (YZ.l0 k l0 l1 0) else (some false))=some r:=h
 clear h
 by_cases c3:(l0.length:Int)=(l1.length:Int)
 ·
  rw [if_pos c3] at H
  have c3b0:((l0.length:Int)==(l1.length:Int))=true:=beq_iff_eq.mpr c3
  have c3b1:((l0.length:Int) != (l1.length:Int))=false:=bne_eq_false_iff_eq.mpr c3
  have c3b2:(l0.length==l1.length)=true:=by first|simpa using c3|(simp at c3 ⊢;omega)
  clear c3
  have H':=Q0.mk H
  clear H
  go_enter Try.func24,Try.ntmps24
  go_wp2
  repeat (go_quiet (fail);try go_wp2)
  go_loopg [5] k (fun kq v5 w' => ∃ (Zt:Int),v5 = .int .i64 Zt∧Q0 (YZ.l0 kq l0 l1 Zt=some r)∧Q0 (kq≤k)∧YQ w w')
  case atStart=>exact ⟨(0),(by first|rfl|(simp;done)|(simp [*];done)),H',⟨Nat.le_refl _⟩,by repeat (first|exact YQ.refl _|apply YQ.step)⟩
  clear H'
  try clear c1
  try clear c2
  try clear p2
  try clear c3
  try clear c3b0
  try clear c3b1
  try clear c3b2
  obtain ⟨Zt,rfl,HA,HK1,⟨m1,rfl⟩⟩:=hrel
  cases gk with
  | zero=>exact absurd HA.out (by simp [YZ.l0])
  | succ k1 =>
   have H:=HA.out
   clear HA
   simp only [YZ.l0] at H
   by_cases c4:Zt<(l0.length:Int)
   ·
    rw [if_pos c4] at H;have c4b0:decide (Zt<(l0.length:Int))=true:=decide_eq_true c4;clear c4
    by_cases c5:0≤Zt
    ·
     rw [if_pos c5] at H;have c5b0:decide (0≤Zt)=true:=decide_eq_true c5;clear c5
     by_cases c6:Zt<(l1.length:Int)
     ·
      rw [if_pos c6] at H;have c6b0:decide (Zt<(l1.length:Int))=true:=decide_eq_true c6;clear c6
      by_cases c7:(!(((Qo l0 Zt).f0)==((Qo l1 Zt).f0))||(!(((Qo l0 Zt).f1)==((Qo l1 Zt).f1))))=true
      ·
       rw [if_pos c7] at H;have c7b0:(!(((Qo l0 Zt).f0)==((Qo l1 Zt).f0))||(!(((Qo l0 Zt).f1)==((Qo l1 Zt).f1))))=true:=c7;clear c7;obtain rfl:=Option.some.inj H;have qhI:0≤(Zt:Int):=of_decide_eq_true (by first|(with_reducible assumption)|assumption);have qhX:Zt<(l0.length:Int):=of_decide_eq_true (by first|(with_reducible assumption)|assumption);obtain ⟨qss,qqx,qot,qou⟩:=ZD HR0.out Zt qhI qhX;cases qqx;replace qhI:=eq_true qhI;replace qhX:=eq_true qhX;have qhJ:0≤(Zt:Int):=of_decide_eq_true (by first|(with_reducible assumption)|assumption);have qhY:Zt<(l1.length:Int):=of_decide_eq_true (by first|(with_reducible assumption)|assumption);obtain ⟨qst,e143,qov,qow⟩:=ZD HR1.out Zt qhJ qhY;cases e143;replace qhJ:=eq_true qhJ;replace qhY:=eq_true qhY
       go_wp2
       repeat (go_quiet (fail);try go_wp2)
       go_ret
       exact ⟨by first|rfl|(simp;done)|(simp [*];done),by repeat (first|exact YQ.refl _|apply YQ.step)⟩
      rw [if_neg c7] at H
      have c7b0:(!(((Qo l0 Zt).f0)==((Qo l1 Zt).f0))||(!(((Qo l0 Zt).f1)==((Qo l1 Zt).f1))))=false:=by simpa using c7
      clear c7;have H':=Q0.mk H;clear H;have qhI:0≤(Zt:Int):=of_decide_eq_true (by first|(with_reducible assumption)|assumption);have qhX:Zt<(l0.length:Int):=of_decide_eq_true (by first|(with_reducible assumption)|assumption);obtain ⟨qss,qqx,qot,qou⟩:=ZD HR0.out Zt qhI qhX;cases qqx;replace qhI:=eq_true qhI;replace qhX:=eq_true qhX;have qhJ:0≤(Zt:Int):=of_decide_eq_true (by first|(with_reducible assumption)|assumption);have qhY:Zt<(l1.length:Int):=of_decide_eq_true (by first|(with_reducible assumption)|assumption);obtain ⟨qst,e143,qov,qow⟩:=ZD HR1.out Zt qhJ qhY;cases e143;replace qhJ:=eq_true qhJ;replace qhY:=eq_true qhY
      go_wp2
      repeat (go_quiet (fail);try go_wp2)
      go_roundg k1
      case measure=>have:=HK1.out;omega
      case rel=>exact ⟨(wrap64 (Zt+1)),(by first|rfl|(simp;done)|(simp [*];done)),H',⟨by have:=HK1.out;omega⟩,by repeat (first|exact YQ.refl _|apply YQ.step)⟩
     rw [if_neg c6] at H
     exact absurd H (by simp)
    rw [if_neg c5] at H
    exact absurd H (by simp)
   rw [if_neg c4] at H
   have c4b0:decide (Zt<(l0.length:Int))=false:=decide_eq_false c4
   clear c4
   obtain rfl:=Option.some.inj H
   go_wp2
   repeat (go_quiet (fail);try go_wp2)
   go_ret
   exact ⟨by first|rfl|(simp;done)|(simp [*];done),by repeat (first|exact YQ.refl _|apply YQ.step)⟩
 rw [if_neg c3] at H
 have c3b0:((l0.length:Int)==(l1.length:Int))=false:=beq_eq_false_iff_ne.mpr c3
 have c3b1:((l0.length:Int) != (l1.length:Int))=true:=bne_iff_ne.mpr c3
 have c3b2:(l0.length==l1.length)=false:=by first|simpa using c3|(simp at c3 ⊢;omega)
 obtain rfl:=Option.some.inj H
 go_enter Try.func24,Try.ntmps24
 go_wp2
 repeat (go_quiet (fail);try go_wp2)
 go_ret
 exact ⟨by first|rfl|(simp;done)|(simp [*];done),by repeat (first|exact YQ.refl _|apply YQ.step)⟩
end
section
attribute [local go_sem] YR YU Z8 Z9 YA YC YT YV
mutual
def Qy.j0:Nat→Int→Bool→List Int→List Int→List Int→Int→Int→Option (Bool)
 | 0,_,_,_,_,_,_,_=>none
 | k+1,x3,x4,Oq,Ot,Ou,UM,UN=>Qy.l0 k x3 x4 0 Oq Ot Ou UM UN
def Qy.l0:Nat→Int→Bool→Int→List Int→List Int→List Int→Int→Int→Option (Bool)
 | 0,_,_,_,_,_,_,_,_=>none
 | k+1,x3,x4,x5,Oq,Ot,Ou,UM,UN=>if x4=true then (Qy.j2 k x3 x4 x5 (decide (x5<x3)) Oq Ot Ou UM UN) else (Qy.j2 k x3 x4 x5 false Oq Ot Ou UM UN)
def Qy.j2:Nat→Int→Bool→Int→Bool→List Int→List Int→List Int→Int→Int→Option (Bool)
 | 0,_,_,_,_,_,_,_,_,_=>none
 | k+1,x3,x4,x5,x47,Oq,Ot,Ou,UM,UN=>if x47=true then (if 0≤x5 then (if x5<(Oq.length:Int) then ((Qt.f (rd Oq x5) 0 100000).bind fun qkv=>(if qkv=true then (if x5<(Ot.length:Int) then ((Qt.f (rd Ot x5) 0 1000).bind fun qdM=>(if qdM=true then (if x5<(Ou.length:Int) then ((Qt.f (rd Ou x5) 0 100).bind fun XI=>(Qy.l0 k x3 XI (wrap64 (x5+1)) Oq Ot Ou UM UN)) else (none)) else (Qy.l0 k x3 false (wrap64 (x5+1)) Oq Ot Ou UM UN))) else (none)) else (Qy.l0 k x3 false (wrap64 (x5+1)) Oq Ot Ou UM UN))) else (none)) else (none)) else (some x4)
end
def Qy.f (k:Nat) (Qi:List Int) (Qu:List Int) (Ql:List Int) (Yf:Int) (Ye:Int):Option (Bool):=(Qt.f (Qi.length:Int) 1 6).bind fun t145=>(if t145=true then (if (Qu.length:Int)=(Qi.length:Int) then (if (Ql.length:Int)=(Qi.length:Int) then ((Qt.f Yf 0 100000000).bind fun t146=>(if t146=true then ((Qt.f Ye 0 (wrap64 ((Qi.length:Int)-1))).bind fun XH=>(Qy.j0 k (Qi.length:Int) XH Qi Qu Ql Yf Ye)) else (Qy.j0 k (Qi.length:Int) false Qi Qu Ql Yf Ye))) else (Qy.j0 k (Qi.length:Int) false Qi Qu Ql Yf Ye)) else (Qy.j0 k (Qi.length:Int) false Qi Qu Ql Yf Ye)) else (Qy.j0 k (Qi.length:Int) false Qi Qu Ql Yf Ye))
set_option maxHeartbeats 8000000 in
set_option maxRecDepth 100000 in
theorem Qy.calls (k:Nat) (Ya:Option Addr) (QP:Nat) (Qi:List Int) (Y6:Option Addr) (QR:Nat) (Qu:List Int) (Yc:Option Addr) (QS:Nat) (Ql:List Int) (Yf:Int) (Ye:Int) (r:Bool) (w:World) (GQ:Kd.C (Kd.int .i64) w Ya Qi.length Qi) (Ka:Qi.length≤QP) (GR:Kd.C (Kd.int .i64) w Y6 Qu.length Qu) (Kb:Qu.length≤QR) (GT:Kd.C (Kd.int .i64) w Yc Ql.length Ql) (Ke:Ql.length≤QS) (h:Qy.f k Qi Qu Ql Yf Ye=some r) :
  Calls Try.prog 76 #[.agg #[.slice Ya Qi.length QP,.slice Y6 Qu.length QR,.slice Yc Ql.length QS,.int .i64 Yf,.int .i64 Ye]] w fun e w'=>e = .returned (.bool r)∧Below w.heap.size w w':=by
 have ql3:=Try.underlying111
 have JI:=Q0.mk GQ
 have G5:=Q0.mk Ka
 clear GQ Ka
 have JU:=Q0.mk GR
 have G6:=Q0.mk Kb
 clear GR Kb
 have JV:=Q0.mk GT
 have G7:=Q0.mk Ke
 clear GT Ke
 have HB:=Q0.mk (Below.refl w.heap.size w)
 have H:((Qt.f (Qi.length:Int) 1 6).bind fun t145=>(if t145=true then (if (Qu.length:Int)=(Qi.length:Int) then (if (Ql.length:Int)=(Qi.length:Int) then ((Qt.f Yf 0 100000000).bind fun t146=>(if t146=true then ((Qt.f Ye 0 (wrap64 ((Qi.length:Int)-1))).bind fun XH=>(Qy.j0 k (Qi.length:Int) XH Qi Qu Ql Yf Ye)) else (Qy.j0 k (Qi.length:Int) false Qi Qu Ql Yf Ye))) else (Qy.j0 k (Qi.length:Int) false Qi Qu Ql Yf Ye)) else (Qy.j0 k (Qi.length:Int) false Qi Qu Ql Yf Ye)) else (Qy.j0 k (Qi.length:Int) false Qi Qu Ql Yf Ye)))=some r:=h
 clear h
 have HC2:=Q0.mk H
 clear H
 go_enter Try.func76,Try.ntmps76
 go_upto_region 2 with (first|((with_reducible refine Y0 (N:=1) rfl ?_);(try (refine G4 (by rfl) ?_;dsimp only));refine Yv ?hg (N:=1) ?hd (cs:=#[.slice Ya Qi.length QP,.slice Y6 Qu.length QR,.slice Yc Ql.length QS,.int .i64 Yf,.int .i64 Ye]) (t:=111) ?hr ?_;(case hd=>rfl);(case hg=>rfl);(case hr=>first|(go_simp;done)|(go_simp;rfl));intro J2 hg w3 hbox hb;have n0_:=Q0.mk (Qv (by repeat (first|(with_reducible first|exact HB.out|apply Q2|apply Q1|apply Q4)|exact HB.out)) hb);have n1_:=Q0.mk (hbox);have n2_:=Q0.mk ((by rw [hg];exact (Qn (by repeat (first|(with_reducible first|exact HB.out|apply Q2|apply Q1|apply Q4)|exact HB.out))):w.heap.size≤J2));have n3_:=n2_;clear HB;have HB:=n0_;have YF:=n1_;have qC8:=n2_;have WA:=n3_;clear n0_ n1_ n2_ n3_ hb hbox hg;have Kg:w3.cell? ⟨J2,0,none⟩=some (.slice Ya Qi.length QP):=(Q9 YF.out 0).trans rfl;have Kh:w3.cell? ⟨J2,1,none⟩=some (.slice Y6 Qu.length QR):=(Q9 YF.out 1).trans rfl;have KB:w3.cell? ⟨J2,2,none⟩=some (.slice Yc Ql.length QS):=(Q9 YF.out 2).trans rfl;have qhr:w3.cell? ⟨J2,3,none⟩=some (.int .i64 Yf):=(Q9 YF.out 3).trans rfl;have qhs:w3.cell? ⟨J2,4,none⟩=some (.int .i64 Ye):=(Q9 YF.out 4).trans rfl;have Ki:=Qa YF.out 0;have Kj:=Qa YF.out 1;have KF:=Qa YF.out 2;have qht:=Qa YF.out 3;have qhu:=Qa YF.out 4))
 (try simp only [Qf,Qb,Qe,Qd,Qc])
 go_cut [4] (fun v4 wc => ∃ (kq:Nat) (qbd:Bool),v4 = .bool qbd∧Q0 (Qy.j0 kq (Qi.length:Int) qbd Qi Qu Ql Yf Ye=some r)∧Q0 (kq≤k)∧Q0 (wc.heap[J2]? = some (.cells #[(.slice Ya Qi.length QP),(.slice Y6 Qu.length QR),(.slice Yc Ql.length QS),.int .i64 Yf,.int .i64 Ye] 111 (0,0)))∧Q0 (Below w.heap.size w wc))
 case first =>
  have H:=HC2.out
  clear HC2
  replace H:=Option.bind_eq_some_iff.mp H
  obtain ⟨t145,A50,H⟩:=H
  replace H:(if t145=true then (if (Qu.length:Int)=(Qi.length:Int) then (if (Ql.length:Int)=(Qi.length:Int) then ((Qt.f Yf 0 100000000).bind fun t146=>(if t146=true then ((Qt.f Ye 0 (wrap64 ((Qi.length:Int)-1))).bind fun XH=>(Qy.j0 k (Qi.length:Int) XH Qi Qu Ql Yf Ye)) else (Qy.j0 k (Qi.length:Int) false Qi Qu Ql Yf Ye))) else (Qy.j0 k (Qi.length:Int) false Qi Qu Ql Yf Ye)) else (Qy.j0 k (Qi.length:Int) false Qi Qu Ql Yf Ye)) else (Qy.j0 k (Qi.length:Int) false Qi Qu Ql Yf Ye))=some r:=H
  have A5:=Q0.mk A50
  clear A50
  by_cases c6:t145=true
  ·
   subst c6
   have H1:(if (Qu.length:Int)=(Qi.length:Int) then (if (Ql.length:Int)=(Qi.length:Int) then ((Qt.f Yf 0 100000000).bind fun t146=>(if t146=true then ((Qt.f Ye 0 (wrap64 ((Qi.length:Int)-1))).bind fun XH=>(Qy.j0 k (Qi.length:Int) XH Qi Qu Ql Yf Ye)) else (Qy.j0 k (Qi.length:Int) false Qi Qu Ql Yf Ye))) else (Qy.j0 k (Qi.length:Int) false Qi Qu Ql Yf Ye)) else (Qy.j0 k (Qi.length:Int) false Qi Qu Ql Yf Ye))=some r:=by rw [if_pos rfl] at H;exact H
   clear H
   have H:=H1
   clear H1
   by_cases c7:(Qu.length:Int)=(Qi.length:Int)
   ·
    rw [if_pos c7] at H;have c7b0:((Qu.length:Int)==(Qi.length:Int))=true:=beq_iff_eq.mpr c7;have c7b1:((Qu.length:Int) != (Qi.length:Int))=false:=bne_eq_false_iff_eq.mpr c7
    have c7b2:(Qu.length==Qi.length)=true:=by first|simpa using c7|(simp at c7 ⊢;omega)
    clear c7
    (first|rw [c7b0]|(simp only [Qk,Qm];rw [c7b0])|skip)
    by_cases c8:(Ql.length:Int)=(Qi.length:Int)
    ·
     rw [if_pos c8] at H;have c8b0:((Ql.length:Int)==(Qi.length:Int))=true:=beq_iff_eq.mpr c8;have c8b1:((Ql.length:Int) != (Qi.length:Int))=false:=bne_eq_false_iff_eq.mpr c8
     have c8b2:(Ql.length==Qi.length)=true:=by first|simpa using c8|(simp at c8 ⊢;omega)
     clear c8;replace H:=Option.bind_eq_some_iff.mp H;obtain ⟨t146,A90,H⟩:=H;replace H:(if t146=true then ((Qt.f Ye 0 (wrap64 ((Qi.length:Int)-1))).bind fun XH=>(Qy.j0 k (Qi.length:Int) XH Qi Qu Ql Yf Ye)) else (Qy.j0 k (Qi.length:Int) false Qi Qu Ql Yf Ye))=some r:=H;have A9:=Q0.mk A90;clear A90
     by_cases c10:t146=true
     ·
      subst c10
      have H1:((Qt.f Ye 0 (wrap64 ((Qi.length:Int)-1))).bind fun XH=>(Qy.j0 k (Qi.length:Int) XH Qi Qu Ql Yf Ye))=some r:=by rw [if_pos rfl] at H;exact H
      clear H;have H:=H1;clear H1;replace H:=Option.bind_eq_some_iff.mp H;obtain ⟨XH,qfF,H⟩:=H;replace H:(Qy.j0 k (Qi.length:Int) XH Qi Qu Ql Yf Ye)=some r:=H;have A11:=Q0.mk qfF;clear qfF;have H':=Q0.mk H;clear H
      go_wp2_with (first|((with_reducible refine QF (f:=65) rfl ?_);refine YE (some 11) rfl rfl Try.func65 (by kernel_rfl) rfl #[.int .i64 (Qi.length:Int),.int .i64 1,.int .i64 6] rfl (by (try simp only [List.map_toArray,List.map_cons,List.map_nil]);first|done|rfl|(simp only [List.length_drop,List.length_take];rfl)) ?_;(with_reducible refine (Qt.calls (Qi.length:Int) 1 6 true _ A5.out).mono ?_);rintro e w' ⟨rfl,⟨nd,rfl⟩⟩;refine ⟨_,rfl,?_⟩;have XX:w3.cell? ⟨J2,0,none⟩=some (.slice Ya Qi.length QP):=(Q9 YF.out 0).trans rfl;have XY:w3.cell? ⟨J2,1,none⟩=some (.slice Y6 Qu.length QR):=(Q9 YF.out 1).trans rfl;have qbZ:w3.cell? ⟨J2,2,none⟩=some (.slice Yc Ql.length QS):=(Q9 YF.out 2).trans rfl;have qeq:w3.cell? ⟨J2,3,none⟩=some (.int .i64 Yf):=(Q9 YF.out 3).trans rfl;have qer:w3.cell? ⟨J2,4,none⟩=some (.int .i64 Ye):=(Q9 YF.out 4).trans rfl;have qai:=Qa YF.out 0;have qaj:=Qa YF.out 1;have qca:=Qa YF.out 2;have qeE:=Qa YF.out 3;have qeF:=Qa YF.out 4)|(go_at_call 65;(with_reducible refine (Qt.calls Yf 0 100000000 true _ A9.out).mono ?_);rintro e w' ⟨rfl,⟨nd,rfl⟩⟩)|(go_at_call 65;(with_reducible refine (Qt.calls Ye 0 (wrap64 ((Qi.length:Int)-1)) XH _ A11.out).mono ?_);rintro e w' ⟨rfl,⟨nd,rfl⟩⟩))
      go_meet
      case rel=>exact ⟨_,(XH),(by first|rfl|(simp;done)|(simp [*];done)),H',⟨by first|omega|exact Nat.le_refl _⟩,⟨by (with_reducible repeat (first|refine Q5 ?_ _|refine Q7 ?_|refine Q3 ?_ _));exact YF.out⟩,⟨by repeat (first|(with_reducible first|exact HB.out|apply Q2|apply Q1|apply Q4|refine Q8 ?_ WA.out)|exact HB.out)⟩⟩
     replace c10:=Bool.eq_false_iff.mpr c10;subst c10
     have H1:(Qy.j0 k (Qi.length:Int) false Qi Qu Ql Yf Ye)=some r:=by rw [if_neg (show ¬ (false=true) by decide)] at H;exact H
     clear H;have H:=H1;clear H1;have H':=Q0.mk H;clear H
     go_wp2_with (first|((with_reducible refine QF (f:=65) rfl ?_);refine YE (some 11) rfl rfl Try.func65 (by kernel_rfl) rfl #[.int .i64 (Qi.length:Int),.int .i64 1,.int .i64 6] rfl (by (try simp only [List.map_toArray,List.map_cons,List.map_nil]);first|done|rfl|(simp only [List.length_drop,List.length_take];rfl)) ?_;(with_reducible refine (Qt.calls (Qi.length:Int) 1 6 true _ A5.out).mono ?_);rintro e w' ⟨rfl,⟨nd,rfl⟩⟩;refine ⟨_,rfl,?_⟩;have Uc:w3.cell? ⟨J2,0,none⟩=some (.slice Ya Qi.length QP):=(Q9 YF.out 0).trans rfl;have Ud:w3.cell? ⟨J2,1,none⟩=some (.slice Y6 Qu.length QR):=(Q9 YF.out 1).trans rfl;have Ue:w3.cell? ⟨J2,2,none⟩=some (.slice Yc Ql.length QS):=(Q9 YF.out 2).trans rfl;have qes:w3.cell? ⟨J2,3,none⟩=some (.int .i64 Yf):=(Q9 YF.out 3).trans rfl;have qet:w3.cell? ⟨J2,4,none⟩=some (.int .i64 Ye):=(Q9 YF.out 4).trans rfl;have Uo:=Qa YF.out 0;have Up:=Qa YF.out 1;have Uq:=Qa YF.out 2;have qeG:=Qa YF.out 3;have qeH:=Qa YF.out 4)|(go_at_call 65;(with_reducible refine (Qt.calls Yf 0 100000000 false _ A9.out).mono ?_);rintro e w' ⟨rfl,⟨nd,rfl⟩⟩))
     go_meet
     case rel=>exact ⟨_,(false),(by first|rfl|(simp;done)|(simp [*];done)),H',⟨by first|omega|exact Nat.le_refl _⟩,⟨by (with_reducible repeat (first|refine Q5 ?_ _|refine Q7 ?_|refine Q3 ?_ _));exact YF.out⟩,⟨by repeat (first|(with_reducible first|exact HB.out|apply Q2|apply Q1|apply Q4|refine Q8 ?_ WA.out)|exact HB.out)⟩⟩
    rw [if_neg c8] at H;have c8b0:((Ql.length:Int)==(Qi.length:Int))=false:=beq_eq_false_iff_ne.mpr c8;have c8b1:((Ql.length:Int) != (Qi.length:Int))=true:=bne_iff_ne.mpr c8
    have c8b2:(Ql.length==Qi.length)=false:=by first|simpa using c8|(simp at c8 ⊢;omega)
    have H':=Q0.mk H;clear H
    go_wp2_with (first|((with_reducible refine QF (f:=65) rfl ?_);refine YE (some 11) rfl rfl Try.func65 (by kernel_rfl) rfl #[.int .i64 (Qi.length:Int),.int .i64 1,.int .i64 6] rfl (by (try simp only [List.map_toArray,List.map_cons,List.map_nil]);first|done|rfl|(simp only [List.length_drop,List.length_take];rfl)) ?_;(with_reducible refine (Qt.calls (Qi.length:Int) 1 6 true _ A5.out).mono ?_);rintro e w' ⟨rfl,⟨nd,rfl⟩⟩;refine ⟨_,rfl,?_⟩;have Uf:w3.cell? ⟨J2,0,none⟩=some (.slice Ya Qi.length QP):=(Q9 YF.out 0).trans rfl;have Ug:w3.cell? ⟨J2,1,none⟩=some (.slice Y6 Qu.length QR):=(Q9 YF.out 1).trans rfl;have Uh:w3.cell? ⟨J2,2,none⟩=some (.slice Yc Ql.length QS):=(Q9 YF.out 2).trans rfl;have qeu:w3.cell? ⟨J2,3,none⟩=some (.int .i64 Yf):=(Q9 YF.out 3).trans rfl;have qev:w3.cell? ⟨J2,4,none⟩=some (.int .i64 Ye):=(Q9 YF.out 4).trans rfl;have Ur:=Qa YF.out 0;have Us:=Qa YF.out 1;have Ut:=Qa YF.out 2;have qeI:=Qa YF.out 3;have qeJ:=Qa YF.out 4))
    go_meet
    case rel=>exact ⟨_,(false),(by first|rfl|(simp;done)|(simp [*];done)),H',⟨by first|omega|exact Nat.le_refl _⟩,⟨by (with_reducible repeat (first|refine Q5 ?_ _|refine Q7 ?_|refine Q3 ?_ _));exact YF.out⟩,⟨by repeat (first|(with_reducible first|exact HB.out|apply Q2|apply Q1|apply Q4|refine Q8 ?_ WA.out)|exact HB.out)⟩⟩
   rw [if_neg c7] at H
   have c7b0:((Qu.length:Int)==(Qi.length:Int))=false:=beq_eq_false_iff_ne.mpr c7
   have c7b1:((Qu.length:Int) != (Qi.length:Int))=true:=bne_iff_ne.mpr c7
   have c7b2:(Qu.length==Qi.length)=false:=by first|simpa using c7|(simp at c7 ⊢;omega)
   (first|rw [c7b0]|(simp only [Qk,Qm];rw [c7b0])|skip)
   have H':=Q0.mk H
   clear H
   go_wp2_with (first|((with_reducible refine QF (f:=65) rfl ?_);refine YE (some 11) rfl rfl Try.func65 (by kernel_rfl) rfl #[.int .i64 (Qi.length:Int),.int .i64 1,.int .i64 6] rfl (by (try simp only [List.map_toArray,List.map_cons,List.map_nil]);first|done|rfl|(simp only [List.length_drop,List.length_take];rfl)) ?_;(with_reducible refine (Qt.calls (Qi.length:Int) 1 6 true _ A5.out).mono ?_);rintro e w' ⟨rfl,⟨nd,rfl⟩⟩;refine ⟨_,rfl,?_⟩;have OH:w3.cell? ⟨J2,0,none⟩=some (.slice Ya Qi.length QP):=(Q9 YF.out 0).trans rfl;have OI:w3.cell? ⟨J2,1,none⟩=some (.slice Y6 Qu.length QR):=(Q9 YF.out 1).trans rfl;have Ui:w3.cell? ⟨J2,2,none⟩=some (.slice Yc Ql.length QS):=(Q9 YF.out 2).trans rfl;have Uj:w3.cell? ⟨J2,3,none⟩=some (.int .i64 Yf):=(Q9 YF.out 3).trans rfl;have Uk:w3.cell? ⟨J2,4,none⟩=some (.int .i64 Ye):=(Q9 YF.out 4).trans rfl;have OM:=Qa YF.out 0;have ON:=Qa YF.out 1;have Uu:=Qa YF.out 2;have Uv:=Qa YF.out 3;have Uw:=Qa YF.out 4))
   go_meet
   case rel=>exact ⟨_,(false),(by first|rfl|(simp;done)|(simp [*];done)),H',⟨by first|omega|exact Nat.le_refl _⟩,⟨by (with_reducible repeat (first|refine Q5 ?_ _|refine Q7 ?_|refine Q3 ?_ _));exact YF.out⟩,⟨by repeat (first|(with_reducible first|exact HB.out|apply Q2|apply Q1|apply Q4|refine Q8 ?_ WA.out)|exact HB.out)⟩⟩
  replace c6:=Bool.eq_false_iff.mpr c6
  subst c6
  have H1:(Qy.j0 k (Qi.length:Int) false Qi Qu Ql Yf Ye)=some r:=by rw [if_neg (show ¬ (false=true) by decide)] at H;exact H
  clear H
  have H:=H1
  clear H1
  have H':=Q0.mk H
  clear H
  go_wp2_with (first|((with_reducible refine QF (f:=65) rfl ?_);refine YE (some 11) rfl rfl Try.func65 (by kernel_rfl) rfl #[.int .i64 (Qi.length:Int),.int .i64 1,.int .i64 6] rfl (by (try simp only [List.map_toArray,List.map_cons,List.map_nil]);first|done|rfl|(simp only [List.length_drop,List.length_take];rfl)) ?_;(with_reducible refine (Qt.calls (Qi.length:Int) 1 6 false _ A5.out).mono ?_);rintro e w' ⟨rfl,⟨nd,rfl⟩⟩;refine ⟨_,rfl,?_⟩))
  go_meet
  case rel=>exact ⟨_,(false),(by first|rfl|(simp;done)|(simp [*];done)),H',⟨by first|omega|exact Nat.le_refl _⟩,⟨by (with_reducible repeat (first|refine Q5 ?_ _|refine Q7 ?_|refine Q3 ?_ _));exact YF.out⟩,⟨by repeat (first|(with_reducible first|exact HB.out|apply Q2|apply Q1|apply Q4|refine Q8 ?_ WA.out)|exact HB.out)⟩⟩
 clear HC2
 try clear c1
 try clear p2
 try clear c6
 try clear p6
 try clear c7
 try clear c7b0
 try clear c7b1
 try clear c7b2
 try clear c8
 try clear c8b0
 try clear c8b1
 try clear c8b2
 try clear c10
 try clear XX
 try clear XY
 try clear qbZ
 try clear qeq
 try clear qer
 try clear Uc
 try clear Ud
 try clear Ue
 try clear qes
 try clear qet
 try clear Uf
 try clear Ug
 try clear Uh
 try clear qeu
 try clear qev
 try clear OH
 try clear OI
 try clear Ui
 try clear Uj
 try clear Uk
 try clear Kg
 try clear Kh
 try clear KB
 try clear qhr
 try clear qhs
 try clear qai
 try clear qaj
 try clear qca
 try clear qeE
 try clear qeF
 try clear Uo
 try clear Up
 try clear Uq
 try clear qeG
 try clear qeH
 try clear Ur
 try clear Us
 try clear Ut
 try clear qeI
 try clear qeJ
 try clear OM
 try clear ON
 try clear Uu
 try clear Uv
 try clear Uw
 try clear Ki
 try clear Kj
 try clear KF
 try clear qht
 try clear qhu
 obtain ⟨kq,qbd,rfl,HA,HJ1,YF,HB⟩:=hcut
 cases kq with
 | zero=>exact absurd HA.out (by simp [Qy.j0])
 | succ kj1 =>
  have H:=HA.out
  clear HA
  simp only [Qy.j0] at H
  have H':=Q0.mk H
  clear H
  go_wp2
  go_loopg [4,5] kj1 (fun kq v4 v5 w' => ∃ (U3:Bool) (Ym:Int),v4 = .bool U3∧v5 = .int .i64 Ym∧Q0 (Qy.l0 kq (Qi.length:Int) U3 Ym Qi Qu Ql Yf Ye=some r)∧Q0 (kq≤kj1)∧Q0 (w'.heap[J2]? = some (.cells #[(.slice Ya Qi.length QP),(.slice Y6 Qu.length QR),(.slice Yc Ql.length QS),.int .i64 Yf,.int .i64 Ye] 111 (0,0)))∧Q0 (Below w.heap.size w w'))
  case atStart=>exact ⟨(qbd),(0),(by first|rfl|(simp;done)|(simp [*];done)),(by first|rfl|(simp;done)|(simp [*];done)),H',⟨Nat.le_refl _⟩,⟨by (with_reducible repeat (first|refine Q5 ?_ _|refine Q7 ?_|refine Q3 ?_ _));exact YF.out⟩,⟨by repeat (first|(with_reducible first|exact HB.out|apply Q2|apply Q1|apply Q4|refine Q8 ?_ WA.out)|exact HB.out)⟩⟩
  clear H'
  try clear c1
  try clear p2
  try clear c6
  try clear p6
  try clear c7
  try clear c7b0
  try clear c7b1
  try clear c7b2
  try clear c8
  try clear c8b0
  try clear c8b1
  try clear c8b2
  try clear c10
  try clear XX
  try clear XY
  try clear qbZ
  try clear qeq
  try clear qer
  try clear Uc
  try clear Ud
  try clear Ue
  try clear qes
  try clear qet
  try clear Uf
  try clear Ug
  try clear Uh
  try clear qeu
  try clear qev
  try clear OH
  try clear OI
  try clear Ui
  try clear Uj
  try clear Uk
  try clear Kg
  try clear Kh
  try clear KB
  try clear qhr
  try clear qhs
  try clear qai
  try clear qaj
  try clear qca
  try clear qeE
  try clear qeF
  try clear Uo
  try clear Up
  try clear Uq
  try clear qeG
  try clear qeH
  try clear Ur
  try clear Us
  try clear Ut
  try clear qeI
  try clear qeJ
  try clear OM
  try clear ON
  try clear Uu
  try clear Uv
  try clear Uw
  try clear Ki
  try clear Kj
  try clear KF
  try clear qht
  try clear qhu
  try clear p2
  try clear p6
  obtain ⟨U3,Ym,rfl,rfl,HA,HK2,YF,HB⟩:=hrel
  cases gk with
  | zero=>exact absurd HA.out (by simp [Qy.l0])
  | succ k2 =>
   have H:=HA.out
   clear HA
   simp only [Qy.l0] at H
   have qqh:=Q0.mk H
   clear H
   go_upto_region 4 with (fail)
   go_cut [47] (fun v47 wc => ∃ (kq:Nat) (qfz:Bool),v47 = .bool qfz∧Q0 (Qy.j2 kq (Qi.length:Int) U3 Ym qfz Qi Qu Ql Yf Ye=some r)∧Q0 (kq≤k2)∧Q0 (wc.heap[J2]? = some (.cells #[(.slice Ya Qi.length QP),(.slice Y6 Qu.length QR),(.slice Yc Ql.length QS),.int .i64 Yf,.int .i64 Ye] 111 (0,0)))∧Q0 (Below w.heap.size w wc))
   case first =>
    have H:=qqh.out;clear qqh
    by_cases c17:U3=true
    ·
     subst c17
     have H1:(Qy.j2 k2 (Qi.length:Int) true Ym (decide (Ym<(Qi.length:Int))) Qi Qu Ql Yf Ye)=some r:=by rw [if_pos rfl] at H;exact H
     clear H;have H:=H1;clear H1;have H':=Q0.mk H;clear H
     go_wp2
     go_meet
     case rel=>exact ⟨_,(decide (Ym<(Qi.length:Int))),(by first|rfl|(simp;done)|(simp [*];done)),H',⟨by have:=HJ1.out;have:=HK2.out;first|omega|exact Nat.le_refl _⟩,⟨by (with_reducible repeat (first|refine Q5 ?_ _|refine Q7 ?_|refine Q3 ?_ _));exact YF.out⟩,⟨by repeat (first|(with_reducible first|exact HB.out|apply Q2|apply Q1|apply Q4|refine Q8 ?_ WA.out)|exact HB.out)⟩⟩
    replace c17:=Bool.eq_false_iff.mpr c17;subst c17
    have H1:(Qy.j2 k2 (Qi.length:Int) false Ym false Qi Qu Ql Yf Ye)=some r:=by rw [if_neg (show ¬ (false=true) by decide)] at H;exact H
    clear H;have H:=H1;clear H1;have H':=Q0.mk H;clear H
    go_wp2
    go_meet
    case rel=>exact ⟨_,(false),(by first|rfl|(simp;done)|(simp [*];done)),H',⟨by have:=HJ1.out;have:=HK2.out;first|omega|exact Nat.le_refl _⟩,⟨by (with_reducible repeat (first|refine Q5 ?_ _|refine Q7 ?_|refine Q3 ?_ _));exact YF.out⟩,⟨by repeat (first|(with_reducible first|exact HB.out|apply Q2|apply Q1|apply Q4|refine Q8 ?_ WA.out)|exact HB.out)⟩⟩
   clear qqh
   try clear c1
   try clear p2
   try clear c6
   try clear p6
   try clear c7
   try clear c7b0
   try clear c7b1
   try clear c7b2
   try clear c8
   try clear c8b0
   try clear c8b1
   try clear c8b2
   try clear c10
   try clear c17
   try clear XX
   try clear XY
   try clear qbZ
   try clear qeq
   try clear qer
   try clear Uc
   try clear Ud
   try clear Ue
   try clear qes
   try clear qet
   try clear Uf
   try clear Ug
   try clear Uh
   try clear qeu
   try clear qev
   try clear OH
   try clear OI
   try clear Ui
   try clear Uj
   try clear Uk
   try clear Kg
   try clear Kh
   try clear KB
   try clear qhr
   try clear qhs
   try clear qai
   try clear qaj
   try clear qca
   try clear qeE
   try clear qeF
   try clear Uo
   try clear Up
   try clear Uq
   try clear qeG
   try clear qeH
   try clear Ur
   try clear Us
   try clear Ut
   try clear qeI
   try clear qeJ
   try clear OM
   try clear ON
   try clear Uu
   try clear Uv
   try clear Uw
   try clear Ki
   try clear Kj
   try clear KF
   try clear qht
   try clear qhu
   try clear p2
   try clear p6
   obtain ⟨kq,qfz,rfl,HA,qjZ,YF,HB⟩:=hcut
   cases kq with
   | zero=>exact absurd HA.out (by simp [Qy.j2])
   | succ WM =>
    have H:=HA.out;clear HA;simp only [Qy.j2] at H
    by_cases c18:qfz=true
    ·
     subst c18
     have H1:(if 0≤Ym then (if Ym<(Qi.length:Int) then ((Qt.f (rd Qi Ym) 0 100000).bind fun qkv=>(if qkv=true then (if Ym<(Qu.length:Int) then ((Qt.f (rd Qu Ym) 0 1000).bind fun qdM=>(if qdM=true then (if Ym<(Ql.length:Int) then ((Qt.f (rd Ql Ym) 0 100).bind fun XI=>(Qy.l0 WM (Qi.length:Int) XI (wrap64 (Ym+1)) Qi Qu Ql Yf Ye)) else (none)) else (Qy.l0 WM (Qi.length:Int) false (wrap64 (Ym+1)) Qi Qu Ql Yf Ye))) else (none)) else (Qy.l0 WM (Qi.length:Int) false (wrap64 (Ym+1)) Qi Qu Ql Yf Ye))) else (none)) else (none))=some r:=by rw [if_pos rfl] at H;exact H
     clear H;have H:=H1;clear H1
     by_cases c19:0≤Ym
     ·
      rw [if_pos c19] at H;have c19b0:decide (0≤Ym)=true:=decide_eq_true c19;clear c19
      by_cases c20:Ym<(Qi.length:Int)
      ·
       rw [if_pos c20] at H;have c20b0:decide (Ym<(Qi.length:Int))=true:=decide_eq_true c20;clear c20;replace H:=Option.bind_eq_some_iff.mp H;obtain ⟨qkv,qrz,H⟩:=H;replace H:(if qkv=true then (if Ym<(Qu.length:Int) then ((Qt.f (rd Qu Ym) 0 1000).bind fun qdM=>(if qdM=true then (if Ym<(Ql.length:Int) then ((Qt.f (rd Ql Ym) 0 100).bind fun XI=>(Qy.l0 WM (Qi.length:Int) XI (wrap64 (Ym+1)) Qi Qu Ql Yf Ye)) else (none)) else (Qy.l0 WM (Qi.length:Int) false (wrap64 (Ym+1)) Qi Qu Ql Yf Ye))) else (none)) else (Qy.l0 WM (Qi.length:Int) false (wrap64 (Ym+1)) Qi Qu Ql Yf Ye))=some r:=H;have A21:=Q0.mk qrz;clear qrz
       by_cases c22:qkv=true
       ·
        subst c22
        have H1:(if Ym<(Qu.length:Int) then ((Qt.f (rd Qu Ym) 0 1000).bind fun qdM=>(if qdM=true then (if Ym<(Ql.length:Int) then ((Qt.f (rd Ql Ym) 0 100).bind fun XI=>(Qy.l0 WM (Qi.length:Int) XI (wrap64 (Ym+1)) Qi Qu Ql Yf Ye)) else (none)) else (Qy.l0 WM (Qi.length:Int) false (wrap64 (Ym+1)) Qi Qu Ql Yf Ye))) else (none))=some r:=by rw [if_pos rfl] at H;exact H
        clear H;have H:=H1;clear H1
        by_cases c23:Ym<(Qu.length:Int)
        ·
         rw [if_pos c23] at H;have c23b0:decide (Ym<(Qu.length:Int))=true:=decide_eq_true c23;clear c23;replace H:=Option.bind_eq_some_iff.mp H;obtain ⟨qdM,qkR,H⟩:=H;replace H:(if qdM=true then (if Ym<(Ql.length:Int) then ((Qt.f (rd Ql Ym) 0 100).bind fun XI=>(Qy.l0 WM (Qi.length:Int) XI (wrap64 (Ym+1)) Qi Qu Ql Yf Ye)) else (none)) else (Qy.l0 WM (Qi.length:Int) false (wrap64 (Ym+1)) Qi Qu Ql Yf Ye))=some r:=H;have A24:=Q0.mk qkR;clear qkR
         by_cases c25:qdM=true
         ·
          subst c25
          have H1:(if Ym<(Ql.length:Int) then ((Qt.f (rd Ql Ym) 0 100).bind fun XI=>(Qy.l0 WM (Qi.length:Int) XI (wrap64 (Ym+1)) Qi Qu Ql Yf Ye)) else (none))=some r:=by rw [if_pos rfl] at H;exact H
          clear H;have H:=H1;clear H1
          by_cases c26:Ym<(Ql.length:Int)
          ·
           rw [if_pos c26] at H;have c26b0:decide (Ym<(Ql.length:Int))=true:=decide_eq_true c26;clear c26;replace H:=Option.bind_eq_some_iff.mp H;obtain ⟨XI,qrC,H⟩:=H;replace H:(Qy.l0 WM (Qi.length:Int) XI (wrap64 (Ym+1)) Qi Qu Ql Yf Ye)=some r:=H;have A27:=Q0.mk qrC;clear qrC;have H':=Q0.mk H;clear H;have qew:wc.cell? ⟨J2,0,none⟩=some (.slice Ya Qi.length QP):=(Q9 YF.out 0).trans rfl;have qex:wc.cell? ⟨J2,1,none⟩=some (.slice Y6 Qu.length QR):=(Q9 YF.out 1).trans rfl;have qvs:wc.cell? ⟨J2,2,none⟩=some (.slice Yc Ql.length QS):=(Q9 YF.out 2).trans rfl;have qvt:wc.cell? ⟨J2,3,none⟩=some (.int .i64 Yf):=(Q9 YF.out 3).trans rfl;have qvu:wc.cell? ⟨J2,4,none⟩=some (.int .i64 Ye):=(Q9 YF.out 4).trans rfl;have qeK:=Qa YF.out 0;have qeL:=Qa YF.out 1;have qxr:=Qa YF.out 2;have qxs:=Qa YF.out 3;have qxt:=Qa YF.out 4;have qdb:0≤(Ym:Int):=of_decide_eq_true (by first|(with_reducible assumption)|assumption);have qdg:Ym<(Qi.length:Int):=of_decide_eq_true (by first|(with_reducible assumption)|assumption);obtain ⟨qpN,qlx,KZ⟩:=Kd.at_int JI.out Ym qdb qdg;cases qlx;replace KZ:=(HB.out.cell (World.block_lt_of_cell? w _ KZ)).trans KZ;replace qdb:=eq_true qdb;replace qdg:=eq_true qdg
           go_wp2_with (first|((with_reducible refine QF (f:=65) rfl ?_);refine YE (some 56) rfl rfl Try.func65 (by kernel_rfl) rfl #[.int .i64 (rd Qi Ym),.int .i64 0,.int .i64 100000] rfl (by (try simp only [List.map_toArray,List.map_cons,List.map_nil]);first|done|rfl|(simp only [List.length_drop,List.length_take];rfl)) ?_;(with_reducible refine (Qt.calls (rd Qi Ym) 0 100000 true _ A21.out).mono ?_);rintro e w' ⟨rfl,⟨nd,rfl⟩⟩;refine ⟨_,rfl,?_⟩;have qhK:0≤(Ym:Int):=of_decide_eq_true (by first|(with_reducible assumption)|assumption);have qhZ:Ym<(Qu.length:Int):=of_decide_eq_true (by first|(with_reducible assumption)|assumption);obtain ⟨qsu,qqy,Wq⟩:=Kd.at_int JU.out Ym qhK qhZ;cases qqy;replace Wq:=(HB.out.cell (World.block_lt_of_cell? w _ Wq)).trans Wq;replace qhK:=eq_true qhK;replace qhZ:=eq_true qhZ)|(go_at_call 65;(with_reducible refine (Qt.calls (rd Qu Ym) 0 1000 true _ A24.out).mono ?_);rintro e w' ⟨rfl,⟨nd,rfl⟩⟩;have qq2:0≤(Ym:Int):=of_decide_eq_true (by first|(with_reducible assumption)|assumption);have qrg:Ym<(Ql.length:Int):=of_decide_eq_true (by first|(with_reducible assumption)|assumption);obtain ⟨qDo,e152,qeT⟩:=Kd.at_int JV.out Ym qq2 qrg;cases e152;replace qeT:=(HB.out.cell (World.block_lt_of_cell? w _ qeT)).trans qeT;replace qq2:=eq_true qq2;replace qrg:=eq_true qrg)|(go_at_call 65;(with_reducible refine (Qt.calls (rd Ql Ym) 0 100 XI _ A27.out).mono ?_);rintro e w' ⟨rfl,⟨nd,rfl⟩⟩))
           go_roundg WM
           case measure=>have:=HJ1.out;have:=HK2.out;have:=qjZ.out;omega
           case rel=>exact ⟨(XI),(wrap64 (Ym+1)),(by first|rfl|(simp;done)|(simp [*];done)),(by first|rfl|(simp;done)|(simp [*];done)),H',⟨by have:=HJ1.out;have:=HK2.out;have:=qjZ.out;omega⟩,⟨by (with_reducible repeat (first|refine Q5 ?_ _|refine Q7 ?_|refine Q3 ?_ _));exact YF.out⟩,⟨by repeat (first|(with_reducible first|exact HB.out|apply Q2|apply Q1|apply Q4|refine Q8 ?_ WA.out)|exact HB.out)⟩⟩
          rw [if_neg c26] at H
          exact absurd H (by simp)
         replace c25:=Bool.eq_false_iff.mpr c25;subst c25
         have H1:(Qy.l0 WM (Qi.length:Int) false (wrap64 (Ym+1)) Qi Qu Ql Yf Ye)=some r:=by rw [if_neg (show ¬ (false=true) by decide)] at H;exact H
         clear H;have H:=H1;clear H1;have H':=Q0.mk H;clear H;have qnn:wc.cell? ⟨J2,0,none⟩=some (.slice Ya Qi.length QP):=(Q9 YF.out 0).trans rfl;have qno:wc.cell? ⟨J2,1,none⟩=some (.slice Y6 Qu.length QR):=(Q9 YF.out 1).trans rfl;have qnp:wc.cell? ⟨J2,2,none⟩=some (.slice Yc Ql.length QS):=(Q9 YF.out 2).trans rfl;have qvv:wc.cell? ⟨J2,3,none⟩=some (.int .i64 Yf):=(Q9 YF.out 3).trans rfl;have qvw:wc.cell? ⟨J2,4,none⟩=some (.int .i64 Ye):=(Q9 YF.out 4).trans rfl;have qnZ:=Qa YF.out 0;have qn0:=Qa YF.out 1;have qn1:=Qa YF.out 2;have qxu:=Qa YF.out 3;have qxv:=Qa YF.out 4;have qdb:0≤(Ym:Int):=of_decide_eq_true (by first|(with_reducible assumption)|assumption);have qdg:Ym<(Qi.length:Int):=of_decide_eq_true (by first|(with_reducible assumption)|assumption);obtain ⟨qpN,qlx,KZ⟩:=Kd.at_int JI.out Ym qdb qdg;cases qlx;replace KZ:=(HB.out.cell (World.block_lt_of_cell? w _ KZ)).trans KZ;replace qdb:=eq_true qdb;replace qdg:=eq_true qdg
         go_wp2_with (first|((with_reducible refine QF (f:=65) rfl ?_);refine YE (some 56) rfl rfl Try.func65 (by kernel_rfl) rfl #[.int .i64 (rd Qi Ym),.int .i64 0,.int .i64 100000] rfl (by (try simp only [List.map_toArray,List.map_cons,List.map_nil]);first|done|rfl|(simp only [List.length_drop,List.length_take];rfl)) ?_;(with_reducible refine (Qt.calls (rd Qi Ym) 0 100000 true _ A21.out).mono ?_);rintro e w' ⟨rfl,⟨nd,rfl⟩⟩;refine ⟨_,rfl,?_⟩;have qhK:0≤(Ym:Int):=of_decide_eq_true (by first|(with_reducible assumption)|assumption);have qhZ:Ym<(Qu.length:Int):=of_decide_eq_true (by first|(with_reducible assumption)|assumption);obtain ⟨qsu,qqy,Wq⟩:=Kd.at_int JU.out Ym qhK qhZ;cases qqy;replace Wq:=(HB.out.cell (World.block_lt_of_cell? w _ Wq)).trans Wq;replace qhK:=eq_true qhK;replace qhZ:=eq_true qhZ)|(go_at_call 65;(with_reducible refine (Qt.calls (rd Qu Ym) 0 1000 false _ A24.out).mono ?_);rintro e w' ⟨rfl,⟨nd,rfl⟩⟩))
         go_roundg WM
         case measure=>have:=HJ1.out;have:=HK2.out;have:=qjZ.out;omega
         case rel=>exact ⟨(false),(wrap64 (Ym+1)),(by first|rfl|(simp;done)|(simp [*];done)),(by first|rfl|(simp;done)|(simp [*];done)),H',⟨by have:=HJ1.out;have:=HK2.out;have:=qjZ.out;omega⟩,⟨by (with_reducible repeat (first|refine Q5 ?_ _|refine Q7 ?_|refine Q3 ?_ _));exact YF.out⟩,⟨by repeat (first|(with_reducible first|exact HB.out|apply Q2|apply Q1|apply Q4|refine Q8 ?_ WA.out)|exact HB.out)⟩⟩
        rw [if_neg c23] at H
        exact absurd H (by simp)
       replace c22:=Bool.eq_false_iff.mpr c22;subst c22
       have H1:(Qy.l0 WM (Qi.length:Int) false (wrap64 (Ym+1)) Qi Qu Ql Yf Ye)=some r:=by rw [if_neg (show ¬ (false=true) by decide)] at H;exact H
       clear H;have H:=H1;clear H1;have H':=Q0.mk H;clear H;have qvx:wc.cell? ⟨J2,0,none⟩=some (.slice Ya Qi.length QP):=(Q9 YF.out 0).trans rfl;have qvy:wc.cell? ⟨J2,1,none⟩=some (.slice Y6 Qu.length QR):=(Q9 YF.out 1).trans rfl;have qvz:wc.cell? ⟨J2,2,none⟩=some (.slice Yc Ql.length QS):=(Q9 YF.out 2).trans rfl;have qvA:wc.cell? ⟨J2,3,none⟩=some (.int .i64 Yf):=(Q9 YF.out 3).trans rfl;have qvB:wc.cell? ⟨J2,4,none⟩=some (.int .i64 Ye):=(Q9 YF.out 4).trans rfl;have qxw:=Qa YF.out 0;have qxx:=Qa YF.out 1;have qxy:=Qa YF.out 2;have qxz:=Qa YF.out 3;have qxA:=Qa YF.out 4;have qdb:0≤(Ym:Int):=of_decide_eq_true (by first|(with_reducible assumption)|assumption);have qdg:Ym<(Qi.length:Int):=of_decide_eq_true (by first|(with_reducible assumption)|assumption);obtain ⟨qpN,qlx,KZ⟩:=Kd.at_int JI.out Ym qdb qdg;cases qlx;replace KZ:=(HB.out.cell (World.block_lt_of_cell? w _ KZ)).trans KZ;replace qdb:=eq_true qdb;replace qdg:=eq_true qdg
       go_wp2_with (first|((with_reducible refine QF (f:=65) rfl ?_);refine YE (some 56) rfl rfl Try.func65 (by kernel_rfl) rfl #[.int .i64 (rd Qi Ym),.int .i64 0,.int .i64 100000] rfl (by (try simp only [List.map_toArray,List.map_cons,List.map_nil]);first|done|rfl|(simp only [List.length_drop,List.length_take];rfl)) ?_;(with_reducible refine (Qt.calls (rd Qi Ym) 0 100000 false _ A21.out).mono ?_);rintro e w' ⟨rfl,⟨nd,rfl⟩⟩;refine ⟨_,rfl,?_⟩))
       go_roundg WM
       case measure=>have:=HJ1.out;have:=HK2.out;have:=qjZ.out;omega
       case rel=>exact ⟨(false),(wrap64 (Ym+1)),(by first|rfl|(simp;done)|(simp [*];done)),(by first|rfl|(simp;done)|(simp [*];done)),H',⟨by have:=HJ1.out;have:=HK2.out;have:=qjZ.out;omega⟩,⟨by (with_reducible repeat (first|refine Q5 ?_ _|refine Q7 ?_|refine Q3 ?_ _));exact YF.out⟩,⟨by repeat (first|(with_reducible first|exact HB.out|apply Q2|apply Q1|apply Q4|refine Q8 ?_ WA.out)|exact HB.out)⟩⟩
      rw [if_neg c20] at H
      exact absurd H (by simp)
     rw [if_neg c19] at H
     exact absurd H (by simp)
    replace c18:=Bool.eq_false_iff.mpr c18;subst c18
    have H1:(some U3)=some r:=by rw [if_neg (show ¬ (false=true) by decide)] at H;exact H
    clear H;have H:=H1;clear H1;obtain rfl:=Option.some.inj H
    go_wp2
    go_ret
    exact ⟨by first|rfl|(simp [QC,QD]<;>rfl)|(simp [*,QC,QD]<;>rfl),by repeat (first|(with_reducible first|exact HB.out|apply Q2|apply Q1|apply Q4|refine Q8 ?_ WA.out)|exact HB.out)⟩
end
section
set_option maxRecDepth 100000 in
theorem Zh.calls6 (A0:Option Addr) (c0:Nat) (l0:List Int) (A1:Option Addr) (c1 n1:Nat) (A2:Option Addr) (c2 n2:Nat) (a3 a4:Int) (w:World) (hr0:Kd.C (Kd.int .i64) w A0 l0.length l0) (hl:l0.length≤6) :
  Calls Try.prog 78 #[.agg #[.slice A0 l0.length c0,.slice A1 n1 c1,.slice A2 n2 c2,.int .i64 a3,.int .i64 a4]] w fun e w'=>e = .returned (.agg (ar6 l0).toArray)∧Below w.heap.size w w':=by
 have hu:=Try.underlying111
 have hu2:=Try.underlying39
 have hu3:=Try.underlying115
 have HL:=Q0.mk hl
 have HR0:=Q0.mk hr0
 clear hr0 hl
 go_enter Try.func78,Try.ntmps78
 go_wp2
 go_region_law (refine step_copy_splice rfl (.tmp 4) (.tmp 7) 37 37 rfl 3 Try.underlying37 (by kernel_rfl) (some ⟨w.heap.size+1+1,0,none⟩) A0 6 6 l0.length c0 rfl rfl (w.heap.size+1+1) 0 (ar6 []) 115 ?c1 (l0.map (Value.int .i64)) (qoF HL.out) ?c2 ?c3 (qoG l0) (w.heap.size+2) _ (Below.refl _ _) (Nat.le_refl _) ?_;(case c1=>exact Q7 (by have h:=U9 (((w.alloc (.cells #[.slice A0 l0.length c0,.slice A1 n1 c1,.slice A2 n2 c2,.int .i64 a3,.int .i64 a4] 111)).alloc (.cells (ar6 []).toArray 115))) (.cells (ar6 []).toArray 115);simp only [World.size_alloc] at h;exact h));(case c2=>exact fun h0=>⟨rfl,XL HR0.out (by repeat (first|exact Below.refl _ _|apply Yu|apply Q2)) h0⟩);(case c3=>simpa [ar6] using HL.out);intro w4 hg4 hb4)
 have HG:=Q0.mk (show Is6 w4 (w.heap.size+1+1) l0 by have h:=hg4;unfold Hid at h;rw [qib l0 HL.out] at h;exact h)
 have HZ:Is6 w4 (w.heap.size+1) []:=(hb4.block (w.heap.size+1) (by omega)).trans (Q7 (Q3 (by have h:=U9 (w.alloc (.cells #[.slice A0 l0.length c0,.slice A1 n1 c1,.slice A2 n2 c2,.int .i64 a3,.int .i64 a4] 111)) (.cells (ar6 []).toArray 115);simp only [World.size_alloc] at h;exact h) _))
 have HZ:=Q0.mk HZ
 have HB:=Q0.mk (show Below w.heap.size w w4 from (Yu (Q2 (Q2 (Q2 (Below.refl w.heap.size w) _) _) _)).trans (hb4.mono (by omega)))
 clear hg4 hb4
 obtain ⟨g0,g1,g2,g3,g4,g5⟩:=HG.out.cells
 obtain ⟨z0,z1,z2,z3,z4,z5⟩:=HZ.out.cells
 obtain ⟨f0,f1,f2,f3,f4,f5⟩:=HZ.out.frozen
 go_wp2
 refine bodyPost_ret (results_cell_row rfl _ _ (w.heap.size+1) 115 (ar6 l0).toArray (0,0) _ rfl (HZ.out.put6 l0) Try.underlying115 rfl (by kernel_rfl)) rfl ?_
 refine ⟨rfl,?_⟩
 have h1:w.heap.size≤w.heap.size+1:=by omega
 repeat (with_reducible first|exact HB.out|refine Q8 ?_ h1)
def Zh.f (Qi Qu Ql:List Int) (Yf Ye:Int):Option (Int × Int × Int × Int × Int × Int) :=
 if Qi.length≤6 then some (rd Qi 0,rd Qi 1,rd Qi 2,rd Qi 3,rd Qi 4,rd Qi 5) else none
theorem Zh.calls (Ya:Option Addr) (QP:Nat) (Qi:List Int) (Y6:Option Addr) (QR:Nat) (Qu:List Int) (Yc:Option Addr) (QS:Nat) (Ql:List Int) (Yf Ye r1 r2 r3 r4 r5 r6:Int) (w:World)
  (GQ:Kd.C (Kd.int .i64) w Ya Qi.length Qi) (Ka:Qi.length≤QP) (GR:Kd.C (Kd.int .i64) w Y6 Qu.length Qu) (Kb:Qu.length≤QR) (GT:Kd.C (Kd.int .i64) w Yc Ql.length Ql) (Ke:Ql.length≤QS)
  (h:Zh.f Qi Qu Ql Yf Ye=some (r1,r2,r3,r4,r5,r6)) :
  Calls Try.prog 78 #[.agg #[.slice Ya Qi.length QP,.slice Y6 Qu.length QR,.slice Yc Ql.length QS,.int .i64 Yf,.int .i64 Ye]] w fun e w' =>
   e = .returned (.agg #[.int .i64 r1,.int .i64 r2,.int .i64 r3,.int .i64 r4,.int .i64 r5,.int .i64 r6])∧Below w.heap.size w w':=by
 unfold Zh.f at h
 by_cases hv:Qi.length≤6
 ·
  rw [if_pos hv] at h
  injection h with h
  simp only [Prod.mk.injEq] at h
  obtain ⟨rfl,rfl,rfl,rfl,rfl,rfl⟩:=h
  exact Zh.calls6 Ya QP Qi Y6 QR Qu.length Yc QS Ql.length Yf Ye w GQ hv
 · rw [if_neg hv] at h;exact absurd h (by simp)
end
section
attribute [local go_sem] YR YU Z8 Z9 YA YC YT YV
def U4 (mesh:Int):Nat→List Int→Int→List Int × Int
 | 0,n,t=>(n,t)
 | j+1,n,t=>if mesh≤(j:Int) then U4 mesh j (n.set j (wrap64 (rd n j-mn (rd n j) t))) (wrap64 (t-mn (rd n j) t)) else (n,t)
def O4 (n spawn:List Int) (k:Nat):List Int:=(List.range k).map fun i:Nat=>wrap64 (rd n i*rd spawn i)
def Wi (last:Int) (n keep:List Int):Nat→List Int
 | 0=>[0,0,0,0,0,0]
 | k+1=>(Wi last n keep k).set (mn ((k:Int)+1) last).toNat (wrap64 (rd (Wi last n keep k) (mn ((k:Int)+1) last)+wrap64 (Int.tdiv (wrap64 (rd n k*rd keep k)) 1000)))
def sumW (l:List Int):Int:=l.foldl (fun s x=>wrap64 (s+x)) 0
theorem qmw (l:List Int) (hl:l.length≤9223372036854775806) (d:Nat):∀ (s:Int) (i:Nat),i≤l.length→l.length-i=d→QX.l0 (d+1) s l (l.length:Int) i=some ((l.drop i).foldl (fun s x=>wrap64 (s+x)) s):=by
 induction d with
 | zero =>
  intro s i h1 h2
  obtain rfl:i=l.length:=by omega
  simp [QX.l0]
 | succ d ih =>
  intro s i h1 h2
  have hi:i<l.length:=by omega
  rw [QX.l0,if_pos (by omega),if_pos (by omega),if_pos (by omega)]
  have hw:wrap64 ((i:Int)+1)=((i+1:Nat):Int):=by unfold wrap64;omega
  rw [hw,ih _ (i+1) (by omega) (by omega)]
  conv=>rhs;rw [List.drop_eq_getElem_cons hi]
  simp only [rd,Int.toNat_natCast,List.getD_eq_getElem?_getD,List.getElem?_eq_getElem hi,Option.getD_some,List.foldl_cons]
theorem qe9 (l:List Int) (hl:l.length≤9223372036854775806):QX.f (l.length+1) l=some (sumW l):=by
 have h:=qmw l hl l.length 0 0 (by omega) (by omega)
 simpa [QX.f,sumW] using h
theorem qbs (last:Int) (n keep:List Int):∀ k,(Wi last n keep k).length=6
 | 0=>rfl
 | k+1=>by rw [Wi,List.length_set,qbs last n keep k]
theorem qkk (m i:Int) (h:m≤i) (h0:0≤m):0≤i:=by omega
set_option maxHeartbeats 4000000 in
set_option maxRecDepth 100000 in
theorem Zp.calls6 (A0:Option Addr) (c0 m:Nat) (A1:Option Addr) (c1:Nat) (l1:List Int) (A2:Option Addr) (c2:Nat) (l2:List Int) (a3 a4:Int) (n:List Int) (take rec_:Int) (w:World)
  (hn:n.length=6) (hm1:1≤m) (hm6:m≤6) (e1:l1.length=m) (e2:l2.length=m) (hm0:0≤a4) (hmm:a4<m) (hr1:Kd.C (Kd.int .i64) w A1 l1.length l1) (hr2:Kd.C (Kd.int .i64) w A2 l2.length l2) :
  Calls Try.prog 77 #[.agg #[.slice A0 m c0,.slice A1 l1.length c1,.slice A2 l2.length c2,.int .i64 a3,.int .i64 a4],.agg #[.int .i64 (rd n 0),.int .i64 (rd n 1),.int .i64 (rd n 2),.int .i64 (rd n 3),.int .i64 (rd n 4),.int .i64 (rd n 5)],.int .i64 take,.int .i64 rec_] w fun e w' =>
   e = .returned (.tuple #[.int .i64 (sumW (O4 (U4 a4 m n take).1 l2 m)),.agg (ar6 ((Wi ((m:Int)-1) (U4 a4 m n take).1 l1 m).set 0 (wrap64 (rd (Wi ((m:Int)-1) (U4 a4 m n take).1 l1 m) 0+rec_)))).toArray])∧Below w.heap.size w w':=by
 have hu:=Try.underlying111
 have hu2:=Try.underlying39
 have hu3:=Try.underlying115
 have HR1:=Q0.mk hr1
 have HR2:=Q0.mk hr2
 have HN:=Q0.mk hn
 have HE1:=Q0.mk e1
 have HE2:=Q0.mk e2
 have HB:=Q0.mk (Below.refl w.heap.size w)
 clear hr1 hr2 hn e1 e2
 obtain ⟨R,hR⟩:∃ R,R=U4 a4 m n take:=⟨_,rfl⟩
 rw [← hR]
 have HRR:=Q0.mk hR
 clear hR
 go_enter Try.func77,Try.ntmps77
 go_wp2_with (fail)
 have BR0:(((w.alloc (.cells #[.slice A0 m c0,.slice A1 l1.length c1,.slice A2 l2.length c2,.int .i64 a3,.int .i64 a4] 111)).alloc (.cells (ar6 n).toArray 115)).alloc (.cells (ar6 []).toArray 115)).heap[w.heap.size]? = some (.cells #[.slice A0 m c0,.slice A1 l1.length c1,.slice A2 l2.length c2,.int .i64 a3,.int .i64 a4] 111 (0,0)):=Q3 (Q3 (U9 w _) _) _
 have I50:Is6 (((w.alloc (.cells #[.slice A0 m c0,.slice A1 l1.length c1,.slice A2 l2.length c2,.int .i64 a3,.int .i64 a4] 111)).alloc (.cells (ar6 n).toArray 115)).alloc (.cells (ar6 []).toArray 115)) (w.heap.size+1) n:=by
  have h:=U9 (w.alloc (.cells #[.slice A0 m c0,.slice A1 l1.length c1,.slice A2 l2.length c2,.int .i64 a3,.int .i64 a4] 111)) (.cells (ar6 n).toArray 115)
  rw [World.size_alloc] at h
  exact Q3 h _
 have I90:Is6 (((w.alloc (.cells #[.slice A0 m c0,.slice A1 l1.length c1,.slice A2 l2.length c2,.int .i64 a3,.int .i64 a4] 111)).alloc (.cells (ar6 n).toArray 115)).alloc (.cells (ar6 []).toArray 115)) (w.heap.size+1+1) []:=by
  have h:=U9 ((w.alloc (.cells #[.slice A0 m c0,.slice A1 l1.length c1,.slice A2 l2.length c2,.int .i64 a3,.int .i64 a4] 111)).alloc (.cells (ar6 n).toArray 115)) (.cells (ar6 []).toArray 115)
  rw [World.size_alloc,World.size_alloc] at h
  exact h
 have BR:=Q0.mk BR0
 have I5:=Q0.mk I50
 have I9:=Q0.mk I90
 clear BR0 I50 I90
 go_loopg [2,11] m (fun j v2 v11 w' => ∃ (t i:Int) (n':List Int),v2 = .int .i64 t∧v11 = .int .i64 i∧Q0 (i=(j:Int)-1)∧Q0 (j≤m)∧Q0 (n'.length=6)∧Q0 (R=U4 a4 j n' t)∧Q0 (w'.heap[w.heap.size]? = some (.cells #[.slice A0 m c0,.slice A1 l1.length c1,.slice A2 l2.length c2,.int .i64 a3,.int .i64 a4] 111 (0,0)))∧Q0 (Is6 w' (w.heap.size+1) n')∧Q0 (Is6 w' (w.heap.size+1+1) [])∧Q0 (Below w.heap.size w w'))
 case atStart=>exact ⟨take,_,n,rfl,rfl,⟨rfl⟩,⟨Nat.le_refl _⟩,HN,HRR,BR,I5,I9,⟨Q2 (Q2 (Q2 HB.out _) _) _⟩⟩
 case round =>
  clear HRR BR I5 I9 HB HN
  obtain ⟨t,i,n',rfl,rfl,HI,HJ,HN,HRR,BR,I5,I9,HB⟩:=hrel
  have b0:wr.cell? ⟨w.heap.size,0,none⟩=some (.slice A0 m c0):=(Q9 BR.out 0).trans rfl
  have b1:wr.cell? ⟨w.heap.size,1,none⟩=some (.slice A1 l1.length c1):=(Q9 BR.out 1).trans rfl
  have b2:wr.cell? ⟨w.heap.size,2,none⟩=some (.slice A2 l2.length c2):=(Q9 BR.out 2).trans rfl
  have b3:wr.cell? ⟨w.heap.size,3,none⟩=some (.int .i64 a3):=(Q9 BR.out 3).trans rfl
  have b4:wr.cell? ⟨w.heap.size,4,none⟩=some (.int .i64 a4):=(Q9 BR.out 4).trans rfl
  by_cases hc:a4≤i
  ·
   have h0:0≤i:=qkk a4 i hc hm0
   have h6:i<6:=by have:=HI.out;have:=HJ.out;omega
   have hx:=I5.out.celli i h0 h6
   have hf:=I5.out.frz i.toNat
   obtain ⟨c,hce⟩:∃ c,(if t<rd n' i then t else rd n' i)=c:=⟨_,rfl⟩
   have HC:=Q0.mk (show mn (rd n' i) t=c from hce)
   go_wp2
   cases gk with
   | zero=>exact absurd h0 (by have:=HI.out;omega)
   | succ j =>
    have hij:i=(j:Int):=by have:=HI.out;omega
    subst hij
    go_roundg j
    case measure=>omega
    case rel=>exact ⟨_,_,_,rfl,rfl,⟨rfl⟩,⟨by have:=HJ.out;omega⟩,⟨by rw [List.length_set];exact HN.out⟩,⟨by rw [HRR.out,U4,if_pos hc,HC.out];rfl⟩,⟨Qx BR.out (Nat.ne_of_lt (Nat.lt_succ_self _)) _⟩,⟨I5.out.seti HN.out _ h0 h6 _⟩,⟨I9.out.far (Nat.succ_ne_self _) _⟩,⟨Q8 HB.out (Nat.le_succ _)⟩⟩
  ·
   have HRn:=Q0.mk (show R.1=n' by
    rw [HRR.out]
    cases gk with
    | zero=>rfl
    | succ j=>rw [U4,if_neg (by have:=HI.out;omega)])
   clear HRR HI HJ
   obtain ⟨W1,rfl⟩:∃ W1:World,W1=wr:=⟨_,rfl⟩
   have hlt:=I9.out.lt
   have I14:=Q0.mk (show Is6 (W1.alloc (.cells (ar6 []).toArray 115)) W1.heap.size [0,0,0,0,0,0] from U9 W1 _)
   replace BR:=Q0.mk (Q3 BR.out (.cells (ar6 []).toArray 115))
   replace I5:=Q0.mk (I5.out.alloc (.cells (ar6 []).toArray 115))
   replace I9:=Q0.mk (I9.out.alloc (.cells (ar6 []).toArray 115))
   replace HB:=Q0.mk (Q2 HB.out (.cells (ar6 []).toArray 115))
   go_wp2
   clear b0 b1 b2 b3 b4
   go_loopg [13,46] m (fun d v13 v46 w' => ∃ (i:Int) (k:Nat) (sv:Value),v46 = .int .i64 i∧sv=v13∧Q0 (i=(k:Int))∧Q0 (k+d=m)∧Q0 (Kd.R (Kd.int .i64) 3 w' w.heap.size (fun _=>True) sv (O4 n' l2 k))∧Q0 (Is6 w' W1.heap.size (Wi ((m:Int)-1) n' l1 k))∧Q0 (w'.heap[w.heap.size]? = some (.cells #[.slice A0 m c0,.slice A1 l1.length c1,.slice A2 l2.length c2,.int .i64 a3,.int .i64 a4] 111 (0,0)))∧Q0 (Is6 w' (w.heap.size+1) n')∧Q0 (Is6 w' (w.heap.size+1+1) [])∧Q0 (Below w.heap.size w w'))
   case atStart=>exact ⟨_,0,_,rfl,rfl,⟨rfl⟩,⟨Nat.zero_add _⟩,⟨Kd.R_nil _ _ _ _ _⟩,I14,BR,I5,I9,HB⟩
   case round =>
    clear I14 BR I5 I9 HB;obtain ⟨x,k,sv,rfl,rfl,HX,HD,HS,I14,BR,I5,I9,HB⟩:=hrel;have b0:wr.cell? ⟨w.heap.size,0,none⟩=some (.slice A0 m c0):=(Q9 BR.out 0).trans rfl;have b1:wr.cell? ⟨w.heap.size,1,none⟩=some (.slice A1 l1.length c1):=(Q9 BR.out 1).trans rfl;have b2:wr.cell? ⟨w.heap.size,2,none⟩=some (.slice A2 l2.length c2):=(Q9 BR.out 2).trans rfl
    by_cases hk:x<(m:Int)
    ·
     have hx0:0≤x:=by have:=HX.out;omega
     have hx6:x<6:=by omega
     have h5:=I5.out.celli x hx0 hx6;obtain ⟨ad2,ea2,hw2⟩:=Kd.at_int HR2.out x hx0 (by have:=HE2.out;omega);subst ea2;have L2:=Q0.mk (World.block_lt_of_cell? w _ hw2);have hA2:=(HB.out.cell L2.out).trans hw2;have HW2:=Q0.mk hw2;clear hw2
     have hl2:x<(l2.length:Int):=by have:=HE2.out;omega
     obtain ⟨p,hp⟩:∃ p,p=wrap64 (rd n' x*rd l2 x):=⟨_,rfl⟩
     have hpw:IntKind.i64.wrap (rd n' x*rd l2 x)=p:=by rw [hp,Qk]
     have HP:=Q0.mk hp;clear hp
     go_wp2
     have hne5:=Kd.R_ne (Kd.R_drew HS.out) (Q7 I5.out) (by decide);have hneR:=Kd.R_ne (Kd.R_drew HS.out) (Q7 BR.out) (by decide)
     go_region_held3 (fun w'=>w'.cell? ⟨w.heap.size+1,x.toNat,none⟩=some (.int .i64 (rd n' x))∧w'.cell? ⟨w.heap.size,2,none⟩=some (.slice (some ad2) l2.length c2)∧w'.cell? (ad2.add x.toNat)=some (.int .i64 (rd l2 x)))
      (first|go_keep|exact ⟨(Is6.celli (JZ (Q7 I5.out) hg1 hne5) x hx0 hx6),((Q9 (JZ (Q7 BR.out) hg1 hneR) 2).trans rfl),((HB1.cell L2.out).trans HW2.out)⟩)
      ((refine Kd.R_append_step (Kd.int .i64) (w0:=w) (W:=wr.drew) w.heap.size ?hw (.tmp 49) (.tmp 60) 37 3 (.int .i64 0) 8 ?ho Try.underlying37 Xm rfl ?n1 ?n2 sv (O4 n' l2 k) p [.int .i64 p] (fun _=>True) (fun _=>False) ?e1 ?e2 rfl (fun _ h=>h.elim) (fun _ _=>trivial) (Kd.R_drew HS.out) (Yu HB.out) ?c1 ?c2 ?_;(case hw=>rfl);(case ho=>rfl);(case n1=>decide);(case n2=>decide);(case e1=>rfl);(case e2=>rfl);(case c1=>exact Qn (Yu HB.out));(case c2=>have:=HD.out;simp [O4];omega);intro v1 w1 HS1 HB1 hg1 qhq))
     have J5:=Q0.mk (show Is6 w1 (w.heap.size+1) n' from JZ (Q7 I5.out) hg1 (Kd.R_ne (Kd.R_drew HS.out) (Q7 I5.out) (by decide)));have J9:=Q0.mk (show Is6 w1 (w.heap.size+1+1) [] from JZ (Q7 I9.out) hg1 (Kd.R_ne (Kd.R_drew HS.out) (Q7 I9.out) (by decide)));have J14:=Q0.mk (show Is6 w1 W1.heap.size _ from JZ (Q7 I14.out) hg1 (Kd.R_ne (Kd.R_drew HS.out) (Q7 I14.out) (by decide)));have JR:=Q0.mk (JZ (Q7 BR.out) hg1 (Kd.R_ne (Kd.R_drew HS.out) (Q7 BR.out) (by decide)));have JS:=Q0.mk HS1;have JB:=Q0.mk HB1;clear I5 I9 I14 BR HS HB HS1 HB1 hg1 qhq b0 b1 b2 h5 hA2 hl2 hpw;obtain ⟨y,hy⟩:∃ y,y=Wi ((m:Int)-1) n' l1 k:=⟨_,rfl⟩;have HY:=Q0.mk hy;rw [← hy] at J14;clear hy;have d1:w1.cell? ⟨w.heap.size,1,none⟩=some (.slice A1 l1.length c1):=(Q9 JR.out 1).trans rfl;have h5:=J5.out.celli x hx0 hx6;obtain ⟨ad1,ea1,hw1⟩:=Kd.at_int HR1.out x hx0 (by have:=HE1.out;omega);subst ea1;have L1:=Q0.mk (World.block_lt_of_cell? w _ hw1);have hA1:=(JB.out.cell L1.out).trans hw1;have HW1:=Q0.mk hw1;clear hw1
     have hl1:x<(l1.length:Int):=by have:=HE1.out;omega
     obtain ⟨jx,hjx⟩:∃ jx,(if (m:Int)-1<x+1 then (m:Int)-1 else x+1)=jx:=⟨_,rfl⟩;have HJX:=Q0.mk (show mn (x+1) ((m:Int)-1)=jx from hjx)
     have hj0:0≤jx:=by rw [← hjx];split<;>omega
     have hj6:jx<6:=by rw [← hjx];split<;>omega
     have h14:=J14.out.celli jx hj0 hj6;have f14:=J14.out.frz jx.toNat
     have hwx:IntKind.i64.wrap (x+1)=x+1:=by rw [Qk];unfold wrap64;omega
     obtain ⟨q1,hq1⟩:∃ q1,IntKind.i64.wrap (rd n' x*rd l1 x)=q1:=⟨_,rfl⟩;obtain ⟨q2,hq2⟩:∃ q2,IntKind.i64.wrap (Int.tdiv q1 1000)=q2:=⟨_,rfl⟩;obtain ⟨q3,hq3⟩:∃ q3,IntKind.i64.wrap (rd y jx+q2)=q3:=⟨_,rfl⟩;have HQ:=Q0.mk (show q3=wrap64 (rd y jx+wrap64 (Int.tdiv (wrap64 (rd n' x*rd l1 x)) 1000)) by rw [← hq3,← hq2,← hq1,Qk,Qk,Qk])
     go_wp2
     go_still_tail 19,(by kernel_rfl)
     change wpList _ _ _ _ _ w1.drew
     go_wp2
     cases gk with
     | zero=>exact absurd hk (by have:=HX.out;have:=HD.out;omega)
     | succ d =>
      have hxk:x=(k:Int):=HX.out
      go_roundg d
      case measure=>omega
      case rel =>
       have hgt:w.heap.size<W1.heap.size:=by omega
       refine ⟨_,k+1,_,rfl,rfl,⟨by rw [hxk];rfl⟩,⟨by have:=HD.out;omega⟩,⟨?_⟩,⟨?_⟩,⟨Qx (Q7 JR.out) (Nat.ne_of_lt hgt) _⟩,⟨J5.out.drew.far (Nat.ne_of_lt (by show w.heap.size+1<W1.heap.size;omega)) _⟩,⟨J9.out.drew.far (Nat.ne_of_lt hlt) _⟩,⟨Q8 (Yu JB.out) (Nat.le_of_lt hgt)⟩⟩
       ·
        have e:O4 n' l2 (k+1)=O4 n' l2 k++[p]:=by
         rw [HP.out,hxk];simp [O4,List.range_succ]
        rw [e]
        exact qld (Kd.R_drew JS.out) J14.out.drew _ _
       ·
        have e:Wi ((m:Int)-1) n' l1 (k+1)=y.set jx.toNat q3:=by
         rw [Wi,← HY.out,← hxk,HJX.out,HQ.out]
        rw [e]
        exact J14.out.drew.seti (by rw [HY.out];exact qbs _ _ _ k) jx hj0 hj6 q3
    ·
     have hkm:k=m:=by have:=HX.out;have:=HD.out;omega
     subst hkm;obtain ⟨y,hy⟩:∃ y,y=Wi ((k:Int)-1) n' l1 k:=⟨_,rfl⟩;have HY:=Q0.mk hy;rw [← hy] at I14;clear hy;obtain ⟨i0,i1,i2,i3,i4,i5⟩:=I14.out.cells;have f0:=I14.out.frz 0;obtain ⟨z,hz⟩:∃ z,wrap64 (rd y 0+rec_)=z:=⟨_,rfl⟩;obtain ⟨As,cs,hsv⟩:=Kd.R_slice HS.out;subst hsv;have hcs:=(Kd.R_reads' HS.out).2.1;have HSL:=Q0.mk (show (O4 n' l2 k).length=k by simp [O4])
     have hgt:w.heap.size<W1.heap.size:=by omega
     have Y14:=Q0.mk (show Is6 (wr.setCell ⟨W1.heap.size,0,none⟩ (.int .i64 z)) W1.heap.size (y.set 0 z) from I14.out.set (by rw [HY.out];exact qbs _ _ _ k) 0 (by omega) z);have YS:=Q0.mk (qld HS.out I14.out 0 (.int .i64 z));have Y9:=Q0.mk (I9.out.far (p:=⟨W1.heap.size,0,none⟩) (Nat.ne_of_lt hlt) (.int .i64 z));have YB:=Q0.mk (Q8 (j:=0) (v:=.int .i64 z) HB.out (Nat.le_of_lt hgt))
     go_wp2
     generalize wr.setCell ⟨W1.heap.size,0,none⟩ (.int .i64 z)=w2 at Y14 YS Y9 YB ⊢
     clear i0 i1 i2 i3 i4 i5 f0 b0 b1 b2;obtain ⟨i0,i1,i2,i3,i4,i5⟩:=Y14.out.cells;obtain ⟨z0,z1,z2,z3,z4,z5⟩:=Y9.out.cells;obtain ⟨f0,f1,f2,f3,f4,f5⟩:=Y9.out.frozen
     go_region_with (go_at_call 97;refine (QX.calls ((O4 n' l2 k).length+1) As cs (O4 n' l2 k) (sumW (O4 n' l2 k)) _ ?hr hcs ?hs).mono ?_;(case hr=>exact Kd.C_below (Kd.R_reads' YS.out).2.2 (by repeat (first|exact Below.refl _ _|apply Yu|apply Q1)));(case hs=>exact qe9 _ (by rw [HSL.out];omega));rintro e w' ⟨rfl,⟨nq,rfl⟩⟩)
     all_goals
      go_wp2
      refine bodyPost_ret (qia rfl _ _ (w.heap.size+1+1) 115 (ar6 (y.set 0 z)).toArray (0,0) _ rfl (Is6.put6 (Y9.out.drewN _) (y.set 0 z)) Try.underlying115 rfl (by kernel_rfl)) rfl ?_;refine ⟨?_,?_⟩
      ·
       show Ending.returned (.tuple #[.int .i64 (sumW (O4 n' l2 k)),.agg (ar6 (y.set 0 z)).toArray])=_
       rw [HRn.out,← HY.out,hz]
      ·
       have h1:w.heap.size≤w.heap.size+1+1:=by omega
       exact Q8 (Q8 (Q8 (Q8 (Q8 (Q8 (Q1 YB.out _) h1) h1) h1) h1) h1) h1
def qdA (m:Nat) (mesh:Int) (keep spawn n:List Int) (take rec_:Int):Int × List Int :=
 (sumW (O4 (U4 mesh m n take).1 spawn m),(Wi ((m:Int)-1) (U4 mesh m n take).1 keep m).set 0 (wrap64 (rd (Wi ((m:Int)-1) (U4 mesh m n take).1 keep m) 0+rec_)))
def okR (l0 l1 l2:List Int) (a4:Int):Prop:=1≤l0.length∧l0.length≤6∧l1.length=l0.length∧l2.length=l0.length∧0≤a4∧a4<(l0.length:Int)
instance (l0 l1 l2:List Int) (a4:Int):Decidable (okR l0 l1 l2 a4):=by unfold okR;infer_instance
def Zp.f (Qi Qu Ql:List Int) (Yf Ye qcO qcP qcQ qcR qcS qcT a2 a3:Int):Option (Int × Int × Int × Int × Int × Int × Int) :=
 if okR Qi Qu Ql Ye then
  some ((qdA Qi.length Ye Qu Ql [qcO,qcP,qcQ,qcR,qcS,qcT] a2 a3).1,
   rd (qdA Qi.length Ye Qu Ql [qcO,qcP,qcQ,qcR,qcS,qcT] a2 a3).2 0,rd (qdA Qi.length Ye Qu Ql [qcO,qcP,qcQ,qcR,qcS,qcT] a2 a3).2 1,
   rd (qdA Qi.length Ye Qu Ql [qcO,qcP,qcQ,qcR,qcS,qcT] a2 a3).2 2,rd (qdA Qi.length Ye Qu Ql [qcO,qcP,qcQ,qcR,qcS,qcT] a2 a3).2 3,
   rd (qdA Qi.length Ye Qu Ql [qcO,qcP,qcQ,qcR,qcS,qcT] a2 a3).2 4,rd (qdA Qi.length Ye Qu Ql [qcO,qcP,qcQ,qcR,qcS,qcT] a2 a3).2 5)
 else none
theorem Zp.calls (Ya:Option Addr) (QP:Nat) (Qi:List Int) (Y6:Option Addr) (QR:Nat) (Qu:List Int) (Yc:Option Addr) (QS:Nat) (Ql:List Int) (Yf Ye qcO qcP qcQ qcR qcS qcT a2 a3 r1 r2 r3 r4 r5 r6 r7:Int) (w:World)
  (GQ:Kd.C (Kd.int .i64) w Ya Qi.length Qi) (Ka:Qi.length≤QP) (GR:Kd.C (Kd.int .i64) w Y6 Qu.length Qu) (Kb:Qu.length≤QR) (GT:Kd.C (Kd.int .i64) w Yc Ql.length Ql) (Ke:Ql.length≤QS)
  (h:Zp.f Qi Qu Ql Yf Ye qcO qcP qcQ qcR qcS qcT a2 a3=some (r1,r2,r3,r4,r5,r6,r7)) :
  Calls Try.prog 77 #[.agg #[.slice Ya Qi.length QP,.slice Y6 Qu.length QR,.slice Yc Ql.length QS,.int .i64 Yf,.int .i64 Ye],.agg #[.int .i64 qcO,.int .i64 qcP,.int .i64 qcQ,.int .i64 qcR,.int .i64 qcS,.int .i64 qcT],.int .i64 a2,.int .i64 a3] w fun e w' =>
   e = .returned (.tuple #[.int .i64 r1,.agg #[.int .i64 r2,.int .i64 r3,.int .i64 r4,.int .i64 r5,.int .i64 r6,.int .i64 r7]])∧Below w.heap.size w w':=by
 unfold Zp.f at h
 by_cases hv:okR Qi Qu Ql Ye
 ·
  rw [if_pos hv] at h
  obtain ⟨h1,h2,h3,h4,h5,h6⟩:=hv
  injection h with h
  simp only [Prod.mk.injEq] at h
  obtain ⟨rfl,rfl,rfl,rfl,rfl,rfl,rfl⟩:=h
  exact Zp.calls6 Ya QP Qi.length Y6 QR Qu Yc QS Ql Yf Ye [qcO,qcP,qcQ,qcR,qcS,qcT] a2 a3 w rfl h1 h2 h3 h4 h5 h6 GR GT
 · rw [if_neg hv] at h;exact absurd h (by simp)
end
end Go.Proofs.Ytmhomdohhihlcaa.P
