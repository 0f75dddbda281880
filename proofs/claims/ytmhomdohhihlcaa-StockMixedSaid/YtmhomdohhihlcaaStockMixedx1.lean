/- What the statement StockMixed leans on, part 2 of 6: contracts of the program's functions; conditions: none. -/
import Derived.Laws.EntriesVeiled
import Derived.WalkMore
import Derived.StillTailTactics
import Derived.Lib.SliceRun
import Derived.Deep.RegionLaw
import Derived.Test.YtmhomdohhihlcaaStockMixedx0
set_option linter.unusedVariables false
set_option linter.unusedSimpArgs false
set_option linter.constructorNameAsVariable false
set_option linter.unusedSectionVars false
namespace Go.Proofs.Ytmhomdohhihlcaa.P
open Go.RowKit Go.Proofs.YtmhomdohhihlcaaW.PrintWords Go.Proofs.YtmhomdohhihlcaaW.PrintLast Go.Proofs.YtmhomdohhihlcaaW.PrintMore
section
def wi (a b c:Int):Bool:=decide (b≤a∧a≤c)
theorem OI {a b c:Int}:wi a b c=true↔b≤a∧a≤c:=by simp [wi]
theorem OA (a b c:Int) (w:World):Calls Try.prog 65 #[.int .i64 a,.int .i64 b,.int .i64 c] w fun e w'=>e = .returned (.bool (wi a b c))∧Yu w w':=by
 refine Qj.calls a b c (wi a b c) w ?_
 unfold Qj.f wi
 by_cases h:b≤a
 ·
  rw [if_pos h];simp [h]
 ·
  rw [if_neg h];simp [h]
def QA.okc:List ZV→Bool→Bool
 | [],b=>b
 | c::cs,b=>QA.okc cs (b&&wi c.f0 0 10000&&wi c.f1 0 10000)
def QA.rowf (m:Int):List Int→Int→Int→Option Int
 | [],_,acc=>some acc
 | c::cs,last,acc=>if wi c (last+1) (m-1)=true then QA.rowf m cs c (Go.bits .or .i64 acc (shl .i64 1 c)) else none
def QA.rows (m:Int):List (List Int)→Option (List Int)
 | []=>some []
 | l::ls=>(QA.rowf m l (-1) 0).bind fun x=>(QA.rows m ls).map (x :: ·)
def QA.tries (cells:List ZV) (sets:List Int):Nat→Nat→BSt→BSt
 | 0,_,st=>st
 | k+1,many,st=>QA.tries cells sets k (many+1) (QA.cz cells sets (many:Int) sets.length [] 0 st)
def QA.g (l0:List ZV) (l1:List (List Int)) (a2:Int):List Int × Int × Int × Int :=
 match QA.rows (l0.length:Int) l1 with
 | none=>([],0,0,94)
 | some sets =>
  if QA.okc l0 (decide ((l0.length:Int)≤12)&&decide ((l1.length:Int)≤8))=true then
   if wi a2 0 8=true then
    ((QA.tries l0 sets (min a2.toNat sets.length+1) 0 ⟨[],0,0⟩).ch,(QA.tries l0 sets (min a2.toNat sets.length+1) 0 ⟨[],0,0⟩).sp,(QA.tries l0 sets (min a2.toNat sets.length+1) 0 ⟨[],0,0⟩).lo,0)
   else ([],0,0,7)
  else ([],0,0,94)
def QA.f (l0:List ZV) (l1:List (List Int)) (a2:Int):Option (List Int × Int × Int × Int) :=
 if l1.length≤35184372088832 then some (QA.g l0 l1 a2) else none
structure Bx0 (w W:World):Prop where
 c:W.heap[w.heap.size]? = some (.cells #[.slice none 0 0] 37 (0,0))
 s:W.heap[w.heap.size+1]? = some (.cells #[.int .i64 0] 3 (0,0))
 l:W.heap[w.heap.size+1+1]? = some (.cells #[.int .i64 0] 3 (0,0))
 below:Below w.heap.size w W
theorem Bx0.keep {w W W1:World} (h:Bx0 w W) (hb:Below W.heap.size W W1):Bx0 w W1:=⟨Qf h.c hb,Qf h.s hb,Qf h.l hb,h.below.trans (hb.mono h.below.size)⟩
theorem Bx0.start (w:World):Bx0 w (((w.alloc (.cells #[.slice none 0 0] 37)).alloc (.cells #[.int .i64 0] 3)).alloc (.cells #[.int .i64 0] 3)):=by
 refine ⟨Q3 (Q3 (World.alloc_heap_new w _) _) _,Q3 ?_ _,?_,Q2 (Q2 (Q2 (Below.refl _ _) _) _) _⟩
 ·
  have:=World.alloc_heap_new (w.alloc (.cells #[.slice none 0 0] 37)) (.cells #[.int .i64 0] 3)
  rwa [World.size_alloc] at this
 ·
  have:=World.alloc_heap_new ((w.alloc (.cells #[.slice none 0 0] 37)).alloc (.cells #[.int .i64 0] 3)) (.cells #[.int .i64 0] 3)
  rwa [World.size_alloc,World.size_alloc] at this
theorem Bx0.again {w W:World} (h:Bx0 w W):Bx0 w (((W.setCell ⟨w.heap.size,0,none⟩ (.slice none 0 0)).setCell ⟨w.heap.size+1,0,none⟩ (.int .i64 0)).setCell ⟨w.heap.size+1+1,0,none⟩ (.int .i64 0)) :=
  ⟨Qm (Qm (QC h.c 0 _ rfl) (p:=⟨w.heap.size+1,0,none⟩) (by simp) _) (p:=⟨w.heap.size+1+1,0,none⟩) (by simp;omega) _,
   Qm (QC (Qm h.s (p:=⟨w.heap.size,0,none⟩) (by simp) _) 0 _ rfl) (p:=⟨w.heap.size+1+1,0,none⟩) (by simp) _,
   QC (Qm (Qm h.l (p:=⟨w.heap.size,0,none⟩) (by simp;omega) _) (p:=⟨w.heap.size+1,0,none⟩) (by simp) _) 0 _ rfl,
   Q7 (Q7 (Q7 h.below (Nat.le_refl _)) (by omega)) (by omega)⟩
theorem results40 (tmps:Array Value) (W:World) (g1 g2 g3:Nat) (v1:Value) (n2 n3:Int) (h6:tmps.getD 6 undef = .pointer (some ⟨g1,0,none⟩)) (h7:tmps.getD 7 undef = .pointer (some ⟨g2,0,none⟩)) (h8:tmps.getD 8 undef = .pointer (some ⟨g3,0,none⟩))
  (k1:W.heap[g1]? = some (.cells #[v1] 37 (0,0))) (k2:W.heap[g2]? = some (.cells #[.int .i64 n2] 3 (0,0))) (k3:W.heap[g3]? = some (.cells #[.int .i64 n3] 3 (0,0))) :
  (results Try.f40 tmps).run Try.prog W = .ok (.tuple #[v1,.int .i64 n2,.int .i64 n3,tmps.getD 9 undef]) W:=by
 have c1:W.cell? ⟨g1,0,none⟩=some v1:=(Q8 k1 0).trans rfl
 have c2:W.cell? ⟨g2,0,none⟩=some (.int .i64 n2):=(Q8 k2 0).trans rfl
 have c3:W.cell? ⟨g3,0,none⟩=some (.int .i64 n3):=(Q8 k3 0).trans rfl
 have h6':tmps[6]?.getD undef = .pointer (some ⟨g1,0,none⟩):=by simpa using h6
 have h7':tmps[7]?.getD undef = .pointer (some ⟨g2,0,none⟩):=by simpa using h7
 have h8':tmps[8]?.getD undef = .pointer (some ⟨g3,0,none⟩):=by simpa using h8
 simp [results,Try.results40,asAddr,h6',h7',h8',go_sem,c1,c2,c3]
theorem qfM:∀ (l:List ZV) (b:Bool),QA.okc l b=true→b=true
 | [],b,h=>h
 | c::cs,b,h=>by
  have:=qfM cs _ h
  cases b with
  | true=>rfl
  | false=>simp at this
structure Bx1 (w:World) (tb n ct:Nat) (At:Option Addr) (sl:List Int) (W:World):Prop where
 x:Bx0 w W
 t:W.heap[tb]? = some (.cells #[.slice At n ct] 137 (0,0))
 r:Kd.R (Kd.int .i64) 139 W w.heap.size (fun _=>True) (.slice At n ct) sl
theorem Bx1.keep {w W W1:World} {tb n ct:Nat} {At:Option Addr} {sl:List Int} (h:Bx1 w tb n ct At sl W) (hb:Below W.heap.size W W1):Bx1 w tb n ct At sl W1:=⟨h.x.keep hb,Qf h.t hb,Kd.R_below h.r hb⟩
theorem Bx1.put {w W:World} {tb n ct tr:Nat} {sl:List Int} (h:Bx1 w tb n ct (some ⟨tr,0,none⟩) sl W) (i:Nat) (x:Int):Bx1 w tb n ct (some ⟨tr,0,none⟩) (sl.set i x) (W.setCell ⟨tr,i,none⟩ (.int .i64 x)):=by
 obtain ⟨cs,hcs⟩:=Kd.R_typed h.r tr rfl
 have hne:∀ {g t:Nat} {c:Array Value},W.heap[g]? = some (.cells c t (0,0))→t≠139→g≠tr:=fun {g t c} hg ht e=>by
  rw [e,hcs] at hg
  injection hg with hg
  injection hg with _ hg
  exact ht hg.symm
 have hbt:w.heap.size≤tr:=Kd.R_base h.r tr rfl
 have h1:=(Kd.R_putg h.r (i:Int) x).1
 rw [Int.toNat_natCast] at h1
 exact ⟨⟨Qm h.x.c (p:=⟨tr,i,none⟩) (hne h.x.c (by decide)) _,Qm h.x.s (p:=⟨tr,i,none⟩) (hne h.x.s (by decide)) _,Qm h.x.l (p:=⟨tr,i,none⟩) (hne h.x.l (by decide)) _,Q7 h.x.below hbt⟩,Qm h.t (p:=⟨tr,i,none⟩) (hne h.t (by decide)) _,h1⟩
theorem qdi {W:World} {g g' t t':Nat} {c c':Array Value} (h:W.heap[g]? = some (.cells c t (0,0))) (h':W.heap[g']? = some (.cells c' t' (0,0))) (ht:t≠t'):g≠g':=fun e=>by
 rw [e,h'] at h
 injection h with h
 injection h with _ h
 exact ht h.symm
theorem Bx1.ready {w W:World} {tb n ct c:Nat} {At A:Option Addr} {sl:List Int} {l0:List ZV} (h:Bx1 w tb n ct At sl W) (hn:sl.length=n) (hC:Kd.C qay w A l0.length l0) (hc:l0.length≤c) :
  BxI w.heap.size (W.heap.size+1) (w.heap.size+1) (w.heap.size+1+1) w.heap.size tb (W.heap.size+1+1) W.heap.size A c l0 At ct sl
   (((W.alloc (.map #[] 0)).alloc (.cells #[.slice A l0.length c,.map (some W.heap.size)] 142)).alloc (.cells #[.func (.func 90) #[] #[.pointer (some ⟨W.heap.size+1,0,none⟩),.pointer (some ⟨w.heap.size+1,0,none⟩),.pointer (some ⟨w.heap.size+1+1,0,none⟩),.pointer (some ⟨w.heap.size,0,none⟩),.pointer (some ⟨tb,0,none⟩),.pointer (some ⟨W.heap.size+1+1,0,none⟩)]] 143)) ⟨[],0,0⟩:=by
 subst hn
 obtain ⟨Wf,hWf⟩:∃ Wf,(((W.alloc (.map #[] 0)).alloc (.cells #[.slice A l0.length c,.map (some W.heap.size)] 142)).alloc (.cells #[.func (.func 90) #[] #[.pointer (some ⟨W.heap.size+1,0,none⟩),.pointer (some ⟨w.heap.size+1,0,none⟩),.pointer (some ⟨w.heap.size+1+1,0,none⟩),.pointer (some ⟨w.heap.size,0,none⟩),.pointer (some ⟨tb,0,none⟩),.pointer (some ⟨W.heap.size+1+1,0,none⟩)]] 143))=Wf:=⟨_,rfl⟩
 have hb:Below W.heap.size W Wf:=by rw [← hWf];exact Q2 (Q2 (Q2 (Below.refl _ _) _) _) _
 have hm:Wf.heap[W.heap.size]? = some (.map #[] 0):=by rw [← hWf];exact Q3 (Q3 (World.alloc_heap_new W _) _) _
 have hs:Wf.heap[W.heap.size+1]? = some (.cells #[.slice A l0.length c,.map (some W.heap.size)] 142 (0,0)):=by
  rw [← hWf]
  refine Q3 ?_ _
  have:=World.alloc_heap_new (W.alloc (.map #[] 0)) (.cells #[.slice A l0.length c,.map (some W.heap.size)] 142)
  rwa [World.size_alloc] at this
 have hf:Wf.heap[W.heap.size+1+1]? = some (.cells #[.func (.func 90) #[] #[.pointer (some ⟨W.heap.size+1,0,none⟩),.pointer (some ⟨w.heap.size+1,0,none⟩),.pointer (some ⟨w.heap.size+1+1,0,none⟩),.pointer (some ⟨w.heap.size,0,none⟩),.pointer (some ⟨tb,0,none⟩),.pointer (some ⟨W.heap.size+1+1,0,none⟩)]] 143 (0,0)):=by
  rw [← hWf]
  have:=World.alloc_heap_new ((W.alloc (.map #[] 0)).alloc (.cells #[.slice A l0.length c,.map (some W.heap.size)] 142)) (.cells #[.func (.func 90) #[] #[.pointer (some ⟨W.heap.size+1,0,none⟩),.pointer (some ⟨w.heap.size+1,0,none⟩),.pointer (some ⟨w.heap.size+1+1,0,none⟩),.pointer (some ⟨w.heap.size,0,none⟩),.pointer (some ⟨tb,0,none⟩),.pointer (some ⟨W.heap.size+1+1,0,none⟩)]] 143)
  rwa [World.size_alloc,World.size_alloc] at this
 rw [hWf]
 have qEt:=QO h.x.l
 have hltt:=QO h.t
 have hbw:Below w.heap.size w Wf:=h.x.below.trans (hb.mono h.x.below.size)
 have hrow:Kd.R (Kd.int .i64) 139 Wf w.heap.size (fun k => ¬ BxS (w.heap.size+1) (w.heap.size+1+1) w.heap.size W.heap.size k) (.slice At sl.length ct) sl:=by
  refine Kd.R_mono (Kd.R_bound (Kd.R_below h.r hb)) (fun k hk e => ?_)
  obtain ⟨_,_,_,q,hq,cs,hcs⟩:=hk
  have hq9:q=139:=by simpa [Kd.int,Kd.scalar] using hq
  subst hq9
  rcases e with e|e|e|e
  ·
   exact qdi hcs (Qf h.x.s hb) (by decide) e
  ·
   exact qdi hcs (Qf h.x.l hb) (by decide) e
  ·
   exact qdi hcs (Qf h.x.c hb) (by decide) e
  ·
   rw [e,hm] at hcs
   cases hcs
 refine ⟨hs,Qf h.x.s hb,Qf h.x.l hb,⟨_,Qf h.x.c hb,Kd.R_nil _ _ _ _ _⟩,Qf h.t hb,hf,hrow,⟨_,_,hm,fun e he=>by simp at he⟩,Kd.C_below hC hbw,hc,⟨by omega,by omega,by omega,by omega⟩,
  ⟨qdi h.t h.x.s (by decide),qdi h.t h.x.l (by decide),qdi h.t h.x.c (by decide),by omega⟩,⟨by omega,by omega,by omega,by omega⟩,⟨by omega,by omega,by omega,by omega,by omega,by omega⟩,⟨by omega,by omega,by omega,by omega⟩,fun W' hb'=>Kd.C_below hC (hbw.trans hb')⟩
theorem qnK:(Try.prog.info? 139).map (fun i=>(i.zero,i.size,i.bytes))=some (some (.agg #[.int .i64 0]),1,8):=by kernel_rfl
set_option maxHeartbeats 8000000 in
set_option maxRecDepth 100000 in
theorem QA.calls (A0:Option Addr) (c0:Nat) (l0:List ZV) (A1:Option Addr) (c1:Nat) (l1:List (List Int)) (a2:Int) (r1:List Int) (r2 r3 r4:Int) (w:World) (hr0:Kd.C qay w A0 l0.length l0) (hc0:l0.length≤c0) (hr1:Kd.C (Kd.slice 3 (Kd.int .i64)) w A1 l1.length l1) (hc1:l1.length≤c1) (h:QA.f l0 l1 a2=some (r1,r2,r3,r4)) :
  Calls Try.prog 40 #[.slice A0 l0.length c0,.slice A1 l1.length c1,.int .i64 a2] w fun e w' => ∃ v0_,e = .returned (.tuple #[v0_,.int .i64 r2,.int .i64 r3,.int .i64 r4])∧Kd.V (Kd.int .i64) 3 w' w.heap.size (fun k_=>w.heap.size≤k_) v0_ r1∧Below w.heap.size w w':=by
 obtain ⟨hsz,hg⟩:l1.length≤35184372088832∧QA.g l0 l1 a2=(r1,r2,r3,r4):=by
  unfold QA.f at h
  by_cases hs:l1.length≤35184372088832
  ·
   rw [if_pos hs] at h
   exact ⟨hs,Option.some.inj h⟩
  ·
   rw [if_neg hs] at h
   cases h
 clear h
 have qEu:l0.length≤9223372036854775807:=hr0.2.1
 have qA0:l1.length≤9223372036854775807:=hr1.2.1
 have HR0:=Q0.mk hr0
 have HR1:=Q0.mk hr1
 have HG:=Q0.mk hg
 have qlm:=Try.underlying136
 obtain ⟨ok,hok⟩:∃ ok,QA.okc l0 (decide ((l0.length:Int)≤12)&&decide ((l1.length:Int)≤8))=ok:=⟨_,rfl⟩
 have HOK:=Q0.mk hok
 have HX0:=Q0.mk (Bx0.start w)
 obtain ⟨ok1,hok1⟩:∃ b,(decide ((l0.length:Int)≤12)&&decide ((l1.length:Int)≤8))=b:=⟨_,rfl⟩
 rw [hok1] at HOK
 obtain ⟨W0,hW0⟩:∃ W0,((w.alloc (.cells #[.slice none 0 0] 37)).alloc (.cells #[.int .i64 0] 3)).alloc (.cells #[.int .i64 0] 3)=W0:=⟨_,rfl⟩
 rw [hW0] at HX0
 have qku:=Q0.mk hok1
 clear hr0 hr1 hg hok hok1
 go_enter Try.func40,Try.ntmps40
 go_upto_region 1 with (fail)
 go_cut [10] (fun v10 wc=>v10 = .bool ok1∧wc=W0)
 case first =>
  by_cases h12:(l0.length:Int)≤12
  ·
   have g12:decide ((l0.length:Int)≤12)=true:=decide_eq_true h12
   by_cases h8:(l1.length:Int)≤8
   ·
    have g8:decide ((l1.length:Int)≤8)=true:=decide_eq_true h8
    go_wp2
    go_meet
    case rel=>exact ⟨by rw [← qku.out,g12,g8];rfl,rfl⟩
   ·
    have g8:decide ((l1.length:Int)≤8)=false:=decide_eq_false h8
    go_wp2
    go_meet
    case rel=>exact ⟨by rw [← qku.out,g12,g8];rfl,rfl⟩
  ·
   have g12:decide ((l0.length:Int)≤12)=false:=decide_eq_false h12
   go_wp2
   go_meet
   case rel=>exact ⟨by rw [← qku.out,g12];rfl,rfl⟩
 case rest =>
  obtain ⟨rfl,rfl⟩:=hcut
  go_wp2
  go_loopg [10,32] l0.length (fun d v10 v32 wr => ∃ (b:Bool) (i:Nat),v10 = .bool b∧v32 = .int .i64 (i:Int)∧Q0 (i+d=l0.length)∧Q0 (QA.okc (l0.drop i) b=ok)∧Q0 (Bx0 w wr))
  case atStart=>exact ⟨ok1,0,rfl,rfl,⟨by omega⟩,⟨by simpa using HOK.out⟩,HX0⟩
  case round =>
   obtain ⟨b,i,rfl,rfl,HD,HO,HX⟩:=hrel
   by_cases hi:i<l0.length
   ·
    obtain ⟨d,rfl⟩:∃ d,gk=d+1:=⟨gk-1,by have:=HD.out;omega⟩;obtain ⟨ad,ea,hx0,hx1⟩:=qh6 HR0.out (i:Int) (by omega) (by omega);subst ea;replace hx0:=(HX.out.below.cell (World.block_lt_of_cell? w _ hx0)).trans hx0;replace hx1:=(HX.out.below.cell (World.block_lt_of_cell? w _ hx1)).trans hx1;rw [Int.toNat_natCast] at hx0 hx1
    have ho2:QA.okc (l0.drop (i+1)) (b&&wi (Gt l0 (i:Int)).f0 0 10000&&wi (Gt l0 (i:Int)).f1 0 10000)=ok:=by
     have h5:=HO.out
     have e:Gt l0 (i:Int)=l0[i]:=by simp [Gt,List.getD_eq_getElem?_getD,List.getElem?_eq_getElem hi]
     rw [List.drop_eq_getElem_cons hi] at h5;rw [e]
     exact h5
    obtain ⟨e0,he0⟩:∃ e0,(Gt l0 (i:Int)).f0=e0:=⟨_,rfl⟩;obtain ⟨e1,he1⟩:∃ e1,(Gt l0 (i:Int)).f1=e1:=⟨_,rfl⟩;rw [he0] at hx0 ho2;rw [he1] at hx1 ho2;have HO2:=Q0.mk ho2;clear ho2 he0 he1 HO
    cases b with
    | false =>
     go_wp2
     go_roundg d
     case measure=>omega
     case rel=>exact ⟨false,i+1,rfl,by simp,⟨by have:=HD.out;omega⟩,⟨by simpa using HO2.out⟩,⟨HX.out.keep (Q2 (Below.refl _ _) _)⟩⟩
    | true =>
     obtain ⟨b1,hb1⟩:∃ b1,wi e0 0 10000=b1:=⟨_,rfl⟩
     cases b1 with
     | false =>
      have HO3:=HO2.out;rw [hb1] at HO3
      go_wp2_with (go_at_call 65;refine (OA _ _ _ _).mono ?_;rintro e w' ⟨rfl,⟨nd,rfl⟩⟩)
      go_roundg d
      case measure=>omega
      case rel=>exact ⟨false,i+1,rfl,by simp,⟨by have:=HD.out;omega⟩,⟨by simpa using HO3⟩,⟨HX.out.keep (Q1 (Q2 (Below.refl _ _) _) _)⟩⟩
     | true =>
      have HO3:=HO2.out;rw [hb1] at HO3
      go_wp2_with (go_at_call 65;refine (OA _ _ _ _).mono ?_;rintro e w' ⟨rfl,⟨nd,rfl⟩⟩)
      go_roundg d
      case measure=>omega
      case rel=>exact ⟨wi e1 0 10000,i+1,rfl,by simp,⟨by have:=HD.out;omega⟩,⟨by simpa using HO3⟩,⟨HX.out.keep (by repeat (first|exact Below.refl _ _|apply Q1|apply Q2))⟩⟩
   ·
    have hio:b=ok:=by
     have h5:=HO.out;rw [List.drop_eq_nil_of_le (by omega)] at h5
     exact h5
    subst hio;clear HD HO
    go_wp2_with ((with_reducible refine qrZ (.makeSlice 137 (.tmp 49) (.tmp 49)) rfl ?_);refine Kd.R_make (Kd.int .i64) w.heap.size 139 rfl (N:=50) rfl 137 _ _ rfl (l1.length:Int) rfl rfl Try.underlying137 (.agg #[.int .i64 0]) 8 qnK rfl (by decide) (by omega) 0 (ok:=fun _=>True) (okp:=fun _=>True) rfl (fun _ hk=>hk) trivial (by omega) (by simp;omega) HX.out.below HX.out.below.size ?_;intro v1 w1 hv1 hb1 hg1 hn1;obtain ⟨At,ct,ev,hct,hCt⟩:=Kd.R_reads hv1;rw [List.length_replicate,Int.toNat_natCast] at ev;subst ev)
    clear hi
    have hX1:Bx1 w w1.heap.size l1.length ct At (List.replicate l1.length 0) (w1.alloc (.cells #[.slice At l1.length ct] 137)):=by
     rw [Int.toNat_natCast] at hv1
     exact ⟨(HX.out.keep ((Below.refl _ wr).grown hg1 (Nat.le_refl _) (fun k e=>by cases e))).keep (Q2 (Below.refl _ _) _),World.alloc_heap_new _ _,Kd.R_below hv1 (Q2 (Below.refl _ _) _)⟩
    have hnt:w1.heap.size<(w1.alloc (.cells #[.slice At l1.length ct] 137)).heap.size:=by simp
    have HX1:=Q0.mk hX1;obtain ⟨rr,hrr⟩:∃ rr,QA.rows (l0.length:Int) l1=rr:=⟨_,rfl⟩;have HRR:=Q0.mk hrr;obtain ⟨tb,htb⟩:∃ tb,w1.heap.size=tb:=⟨_,rfl⟩;rw [htb] at HX1 ⊢;clear hX1 hrr hv1 hb1 hg1 hn1 hct hCt HX hnt
    go_loopg [53] l1.length (fun d v53 wr => ∃ (i:Nat),v53 = .int .i64 (i:Int)∧Q0 (i+d=l1.length)∧Q0 (∃ done:List Int,done.length=i∧rr=(QA.rows (l0.length:Int) (l1.drop i)).map (done ++ ·)∧Bx1 w tb l1.length ct At (done++List.replicate (l1.length-i) 0) wr))
    case atStart=>exact ⟨0,rfl,⟨by omega⟩,⟨[],rfl,by rw [List.drop_zero,HRR.out];simp,by simpa using HX1.out⟩⟩
    case round =>
     clear HX1 htb;obtain ⟨i,rfl,HD,HE⟩:=hrel;obtain ⟨done,hdl,hdr,hX⟩:=HE.out
     by_cases hi:i<l1.length
     ·
      obtain ⟨d,rfl⟩:∃ d,gk=d+1:=⟨gk-1,by have:=HD.out;omega⟩;obtain ⟨ad,Al,cl,ea,hxl,hcl,hCl⟩:=qh5 HR1.out (i:Int) (by omega) (by omega);subst ea;replace hxl:=(hX.x.below.cell (World.block_lt_of_cell? w _ hxl)).trans hxl;rw [Int.toNat_natCast] at hxl;obtain ⟨lst,hlst⟩:∃ lst,Yc l1 (i:Int)=lst:=⟨_,rfl⟩;rw [hlst] at hxl hcl hCl
      have hdrop:l1.drop i=lst::l1.drop (i+1):=by
       rw [List.drop_eq_getElem_cons hi,← hlst]
       congr 1
       simp [Yc,List.getD_eq_getElem?_getD,List.getElem?_eq_getElem hi]
      have qsL:rr=((QA.rowf (l0.length:Int) lst (-1) 0).bind fun x=>(QA.rows (l0.length:Int) (l1.drop (i+1))).map (x :: ·)).map (done ++ ·):=by rw [hdr,hdrop];rfl
      have hrep:List.replicate (l1.length-i) (0:Int)=0::List.replicate (l1.length-(i+1)) 0:=by
       rw [show l1.length-i=(l1.length-(i+1))+1 by omega,List.replicate_succ]
      rw [hrep] at hX;have hmxl:lst.length≤9223372036854775807:=hCl.2.1;have HX:=Q0.mk hX;have HCL:=Q0.mk hCl;have HDL:=Q0.mk hdl;have qq1:=Q0.mk qsL;clear hX hCl hdl qsL hdr hdrop hrep hlst hcl HE;obtain ⟨wo,hwo⟩:∃ wo:World,wo=wr:=⟨_,rfl⟩;subst hwo
      go_wp2
      go_loopg [16,60] lst.length (fun d2 v16 v60 wr => ∃ (last:Int) (j:Nat) (acc:Int),v16 = .int .i64 last∧v60 = .int .i64 (j:Int)∧Q0 (j+d2=lst.length)∧Q0 (-1≤last∧last<(l0.length:Int)∨last = -1)∧Q0 (QA.rowf (l0.length:Int) lst (-1) 0=QA.rowf (l0.length:Int) (lst.drop j) last acc)∧Q0 (Bx1 w tb l1.length ct At (done++acc::List.replicate (l1.length-(i+1)) 0) wr))
      case atStart=>exact ⟨-1,0,0,rfl,rfl,⟨by omega⟩,⟨.inr rfl⟩,⟨by simp⟩,HX⟩
      case round =>
       obtain ⟨last,j,acc,rfl,rfl,HD2,HLA,HRO,HX2⟩:=hrel
       have hla : -1≤last∧last≤9223372036854775806:=by rcases HLA.out with h|h<;>omega
       clear HX
       by_cases hj:j<lst.length
       ·
        obtain ⟨d2,rfl⟩:∃ d2,gk=d2+1:=⟨gk-1,by have:=HD2.out;omega⟩;obtain ⟨adl,eal,hxc⟩:=Kd.at_int (Kd.C_below HCL.out HX2.out.x.below) (j:Int) (by omega) (by omega);subst eal;rw [Int.toNat_natCast] at hxc;obtain ⟨cc,hcc⟩:∃ cc,rd lst (j:Int)=cc:=⟨_,rfl⟩
        have qjk:QA.rowf (l0.length:Int) lst (-1) 0=if wi cc (last+1) ((l0.length:Int)-1)=true then QA.rowf (l0.length:Int) (lst.drop (j+1)) cc (Go.bits .or .i64 acc (shl .i64 1 cc)) else none:=by
         rw [HRO.out,List.drop_eq_getElem_cons hj,← hcc]
         have e:rd lst (j:Int)=lst[j]:=by simp [rd,List.getD_eq_getElem?_getD,List.getElem?_eq_getElem hj]
         rw [e]
         rfl
        rw [hcc] at hxc;clear hcc HRO
        by_cases hw:wi cc (last+1) ((l0.length:Int)-1)=true
        ·
         rw [if_pos hw] at qjk;have qre:=Q0.mk qjk;clear qjk;obtain ⟨hw1,hw2⟩:=OI.1 hw;obtain ⟨tr,cr,er,_,_,_,_⟩:=Kd.R_form HX2.out.r (by simp;omega)
         injection er with e1 e0 e2
         clear e0;subst e1 e2;have hX3:=HX2.out;clear HX2
         have hel:wr.cell? ⟨tr,i,none⟩=some (.int .i64 acc):=by
          obtain ⟨ad2,ea2,hel⟩:=Kd.at_int (Kd.R_reads' hX3.r).2.2 (i:Int) (by omega) (by have:=HDL.out;simp;omega)
          injection ea2 with ea2
          subst ea2;rw [Int.toNat_natCast,UH] at hel;rw [hel];have:=HDL.out
          simp [rd,List.getD_eq_getElem?_getD,this]
         obtain ⟨gcs,hgcs⟩:=Kd.R_typed hX3.r tr rfl;have hef:wr.frozen? ⟨tr,i,none⟩=false:=Qa hgcs i;have htb:wr.cell? ⟨tb,0,none⟩=some (.slice (some ⟨tr,0,none⟩) l1.length ct):=(Q8 hX3.t 0).trans rfl;obtain ⟨sh,hsh⟩:∃ sh,shl .i64 1 cc=sh:=⟨_,rfl⟩;have hr3:=qre.out;rw [hsh] at hr3;have qzY:=Q0.mk hr3;have hji_:(IntKind.i64.wrap (1*2 ^ min cc.toNat 64))=sh:=hsh;have hjiz:cc≤64→(IntKind.i64.wrap (1*2 ^ cc.toNat))=sh:=qjG hsh
         have hjiu:(IntKind.i64.wrap (2 ^ min cc.toNat 64))=sh:=by have h_:=hji_;rw [Int.one_mul] at h_;exact h_
         have hjiv:cc≤64→(IntKind.i64.wrap (2 ^ cc.toNat))=sh:=fun hle_=>by have h_:=hjiz hle_;rw [Int.one_mul] at h_;exact h_
         obtain ⟨or,hor⟩:∃ o,Go.bits .or .i64 acc sh=o:=⟨_,rfl⟩;have HX3:=Q0.mk hX3;clear hX3 hgcs hsh hr3 qre
         have qEf:0≤cc:=by omega
         go_wp2_with (go_at_call 65;refine (OA _ _ _ _).mono ?_;rintro e w' ⟨rfl,⟨nd,rfl⟩⟩)
         obtain ⟨w9,hw9⟩:∃ w9,wr.drewN nd=w9:=⟨_,rfl⟩
         have qEl:w9.cell? ⟨tr,i,none⟩=some (.int .i64 acc):=by rw [← hw9];exact hel
         have qEk:w9.frozen? ⟨tr,i,none⟩=false:=by rw [← hw9];exact hef
         have qES:w9.cell? ⟨tb,0,none⟩=some (.slice (some ⟨tr,0,none⟩) l1.length ct):=by rw [← hw9];exact htb
         have HX9:=Q0.mk (show Bx1 w tb l1.length ct (some ⟨tr,0,none⟩) (done++acc::List.replicate (l1.length-(i+1)) 0) w9 by rw [← hw9];exact HX3.out.keep (Q1 (Below.refl _ _) nd));rw [hw9];clear hw9 hel hef htb HX3
         go_still_tail 10,(by kernel_rfl)
         change wpList _ _ _ _ _ (World.drew _)
         go_wp2
         go_roundg d2
         case measure=>omega
         case rel =>
          have hset:(done++acc::List.replicate (l1.length-(i+1)) 0).set i or=done++or::List.replicate (l1.length-(i+1)) 0:=by
           rw [← HDL.out,List.set_append_right _ _ (Nat.le_refl _),Nat.sub_self,List.set_cons_zero]
          have hput:=HX9.out.put i or;rw [hset] at hput;refine ⟨cc,j+1,or,rfl,by simp,⟨by have:=HD2.out;omega⟩,⟨.inl ⟨by omega,by omega⟩⟩,⟨?_⟩,⟨hput.keep (Yl (Below.refl _ _))⟩⟩;rw [qzY.out,hor]
        ·
         replace hw:=Bool.eq_false_iff.mpr hw;rw [if_neg (by rw [hw];decide)] at qjk
         have hrn:rr=none:=by rw [qq1.out,qjk];rfl
         have hg:=HG.out;unfold QA.g at hg;rw [HRR.out,hrn] at hg;replace hg:(([],0,0,94):List Int × Int × Int × Int)=(r1,r2,r3,r4):=hg
         injection hg with e1 hg
         injection hg with e2 hg
         injection hg with e3 e4
         subst e1 e2 e3 e4;clear qjk hrn;have hcb:wr.cell? ⟨w.heap.size,0,none⟩=some (.slice none 0 0):=(Q8 HX2.out.x.c 0).trans rfl;have hsb:wr.cell? ⟨w.heap.size+1,0,none⟩=some (.int .i64 0):=(Q8 HX2.out.x.s 0).trans rfl;have hlb:wr.cell? ⟨w.heap.size+1+1,0,none⟩=some (.int .i64 0):=(Q8 HX2.out.x.l 0).trans rfl;have hfc:=Qa HX2.out.x.c 0;have hfs:=Qa HX2.out.x.s 0;have hfl:=Qa HX2.out.x.l 0
         go_wp2_with (go_at_call 65;refine (OA _ _ _ _).mono ?_;rintro e w' ⟨rfl,⟨nd,rfl⟩⟩)
         have hXf:=(HX2.out.x.keep (Q1 (Below.refl _ _) nd)).again;refine bodyPost_ret (results40 _ _ _ _ _ (.slice none 0 0) 0 0 rfl rfl rfl hXf.c hXf.s hXf.l) rfl ?_
         exact ⟨_,rfl,Kd.V_nil _ _ _ _ _,hXf.below⟩
       ·
        have hjl:j=lst.length:=by have:=HD2.out;omega
        subst hjl;have hr5:=HRO.out;rw [List.drop_length] at hr5;replace hr5:QA.rowf (l0.length:Int) lst (-1) 0=some acc:=hr5
        have hr6:rr=(QA.rows (l0.length:Int) (l1.drop (i+1))).map ((done++[acc]) ++ ·):=by
         rw [qq1.out,hr5]
         cases QA.rows (l0.length:Int) (l1.drop (i+1)) with
         | none=>rfl
         | some z=>simp
        have HR6:=Q0.mk hr6;clear hr5 hr6 HRO
        go_wp2
        go_roundg d
        case measure=>omega
        case rel =>
         refine ⟨i+1,by simp,⟨by have:=HD.out;omega⟩,⟨done++[acc],by have:=HDL.out;simp;omega,HR6.out,?_⟩⟩;have h7:=HX2.out
         rwa [List.append_cons] at h7
     ·
      have hil:i=l1.length:=by have:=HD.out;omega
      subst hil;rw [List.drop_length] at hdr;replace hdr:rr=some (done++[]):=hdr;rw [List.append_nil] at hdr;rw [Nat.sub_self,List.replicate_zero,List.append_nil] at hX;have hg:=HG.out;unfold QA.g at hg;rw [HRR.out,hdr] at hg
      replace hg:(if QA.okc l0 (decide ((l0.length:Int)≤12)&&decide ((l1.length:Int)≤8))=true then
   if wi a2 0 8=true then
    ((QA.tries l0 done (min a2.toNat done.length+1) 0 ⟨[],0,0⟩).ch,(QA.tries l0 done (min a2.toNat done.length+1) 0 ⟨[],0,0⟩).sp,(QA.tries l0 done (min a2.toNat done.length+1) 0 ⟨[],0,0⟩).lo,0)
   else ([],0,0,7)
  else ([],0,0,94))=(r1,r2,r3,r4):=hg
      rw [qku.out,HOK.out] at hg;have HX:=Q0.mk hX;have HDL:=Q0.mk hdl;clear hX hdl hdr HE
      cases b with
      | false =>
       rw [if_neg (by decide)] at hg
       injection hg with e1 hg
       injection hg with e2 hg
       injection hg with e3 e4
       subst e1 e2 e3 e4;have hcb:wr.cell? ⟨w.heap.size,0,none⟩=some (.slice none 0 0):=(Q8 HX.out.x.c 0).trans rfl;have hsb:wr.cell? ⟨w.heap.size+1,0,none⟩=some (.int .i64 0):=(Q8 HX.out.x.s 0).trans rfl;have hlb:wr.cell? ⟨w.heap.size+1+1,0,none⟩=some (.int .i64 0):=(Q8 HX.out.x.l 0).trans rfl;have hfc:=Qa HX.out.x.c 0;have hfs:=Qa HX.out.x.s 0;have hfl:=Qa HX.out.x.l 0
       go_wp2
       have hXf:=HX.out.x.again;refine bodyPost_ret (results40 _ _ _ _ _ (.slice none 0 0) 0 0 rfl rfl rfl hXf.c hXf.s hXf.l) rfl ?_
       exact ⟨_,rfl,Kd.V_nil _ _ _ _ _,hXf.below⟩
      | true =>
       rw [if_pos rfl] at hg
       by_cases hw8:wi a2 0 8=true
       ·
        rw [if_pos hw8] at hg
        have hn8:done.length≤8:=by
         have h1:=HOK.out;have h1:=qfM _ _ h1;rw [← qku.out] at h1;have:=HDL.out
         simp at h1
         omega
        obtain ⟨ha0,ha8⟩:=OI.1 hw8;obtain ⟨stF,hstF⟩:∃ stF,QA.tries l0 done (min a2.toNat done.length+1) 0 ⟨[],0,0⟩=stF:=⟨_,rfl⟩;rw [hstF] at hg
        injection hg with e1 hg
        injection hg with e2 hg
        injection hg with e3 e4
        subst e1 e2 e3 e4;have HST:=Q0.mk hstF;have htb:wr.cell? ⟨tb,0,none⟩=some (.slice At l1.length ct):=(Q8 HX.out.t 0).trans rfl;have hmm:=@run_makeMap Try.prog;have qpb:=Try.underlying142;have hltt:=QO HX.out.t;have hw8b:wi a2 0 8=true:=hw8;clear hstF hw8
        go_upto_region 25 with ((go_at_call 65;refine (OA _ _ _ _).mono ?_;rintro e w' ⟨rfl,⟨nd,rfl⟩⟩))
        obtain ⟨w9,hw9⟩:∃ w9,wr.drewN nd=w9:=⟨_,rfl⟩;have HX9:=Q0.mk (show Bx1 w tb l1.length ct At done w9 by rw [← hw9];exact HX.out.keep (Q1 (Below.refl _ _) nd));rw [hw9];clear hw9 htb HX;have hR:=HX9.out.ready HDL.out HR0.out hc0;obtain ⟨W3,hW3⟩:∃ W3,(((w9.alloc (.map #[] 0)).alloc (.cells #[.slice A0 l0.length c0,.map (some w9.heap.size)] 142)).alloc (.cells #[.func (.func 90) #[] #[.pointer (some ⟨w9.heap.size+1,0,none⟩),.pointer (some ⟨w.heap.size+1,0,none⟩),.pointer (some ⟨w.heap.size+1+1,0,none⟩),.pointer (some ⟨w.heap.size,0,none⟩),.pointer (some ⟨tb,0,none⟩),.pointer (some ⟨w9.heap.size+1+1,0,none⟩)]] 143))=W3:=⟨_,rfl⟩;have hB3:Below w.heap.size w W3:=HX9.out.x.below.trans (by rw [← hW3];exact (Q2 (Q2 (Q2 (Below.refl _ _) _) _) _).mono HX9.out.x.below.size);rw [hW3] at hR;have HR:=Q0.mk hR;have HB3:=Q0.mk hB3;have qBl:W3.cell? ⟨tb,0,none⟩=some (.slice At done.length ct):=(Q8 hR.tbx 0).trans rfl;have qCq:=QO HX9.out.t;obtain ⟨mm,hmn⟩:∃ mm:Nat,(if (done.length:Int)<a2 then (done.length:Int) else a2)=(mm:Int):=⟨min a2.toNat done.length,by split<;>omega⟩
        have hmin:min a2.toNat done.length=mm:=by split at hmn<;>omega
        have HMM:=Q0.mk hmin
        have hm8:mm≤8:=by omega
        clear hR hB3 hmin
        go_wp2
        have qgQ:=HST.out;rw [HMM.out] at qgQ;have qz0:=Q0.mk qgQ;clear qgQ qBl hmn hmm hW3
        go_loopg [99] (mm+1) (fun d v99 wr => ∃ (k:Nat),v99 = .int .i64 (k:Int)∧Q0 (k+d=mm+1)∧Q0 (∃ st',BxI w.heap.size (w9.heap.size+1) (w.heap.size+1) (w.heap.size+1+1) w.heap.size tb (w9.heap.size+1+1) w9.heap.size A0 c0 l0 At ct done wr st'∧QA.tries l0 done d k st'=stF)∧Q0 (Below w.heap.size w wr))
        case atStart=>exact ⟨0,rfl,⟨by omega⟩,⟨_,HR.out,qz0.out⟩,HB3⟩
        case round =>
         obtain ⟨k,rfl,HK4,HS4,HB4⟩:=hrel;obtain ⟨st',hI4,hT4⟩:=HS4.out
         by_cases hk:k<mm+1
         ·
          obtain ⟨d,rfl⟩:∃ d,gk=d+1:=⟨gk-1,by have:=HK4.out;omega⟩
          have hki:(k:Int)<(mm:Int)+1:=by omega
          have hfb:wr.cell? ⟨w9.heap.size+1+1,0,none⟩=some (.func (.func 90) #[] #[.pointer (some ⟨w9.heap.size+1,0,none⟩),.pointer (some ⟨w.heap.size+1,0,none⟩),.pointer (some ⟨w.heap.size+1+1,0,none⟩),.pointer (some ⟨w.heap.size,0,none⟩),.pointer (some ⟨tb,0,none⟩),.pointer (some ⟨w9.heap.size+1+1,0,none⟩)]):=(Q8 hI4.fbx 0).trans rfl;have hNw:w.heap.size≤wr.heap.size:=HB4.out.size;have hcall:=Ks.calls (many:=(k:Int)) hn8 done.length (.slice none 0 0) [] 0 st' wr (.inl ⟨rfl,rfl⟩) (by simp) hI4 hNw (Kd.R_nil _ _ _ _ _) (by decide);have HCALL:=Q0.mk hcall;have HT4:=Q0.mk (show QA.tries l0 done d (k+1) (QA.cz l0 done (k:Int) done.length [] 0 st')=stF from hT4);clear hcall hT4 hI4 HS4
          go_wp2_with ((with_reducible refine QW (N:=105) rfl ?_);refine XJ (some 105) rfl rfl Try.func90 ?hnm rfl #[.slice none 0 0,.agg #[.int .i64 0],.int .i64 (k:Int),.pointer (some ⟨w9.heap.size+1,0,none⟩),.pointer (some ⟨w.heap.size+1,0,none⟩),.pointer (some ⟨w.heap.size+1+1,0,none⟩),.pointer (some ⟨w.heap.size,0,none⟩),.pointer (some ⟨tb,0,none⟩),.pointer (some ⟨w9.heap.size+1+1,0,none⟩)] 102 #[] #[.pointer (some ⟨w9.heap.size+1,0,none⟩),.pointer (some ⟨w.heap.size+1,0,none⟩),.pointer (some ⟨w.heap.size+1+1,0,none⟩),.pointer (some ⟨w.heap.size,0,none⟩),.pointer (some ⟨tb,0,none⟩),.pointer (some ⟨w9.heap.size+1+1,0,none⟩)] rfl ?hevC ?hagC ?_;(case hnm=>kernel_rfl);(case hevC=>rfl);(case hagC=>simp only [List.map_toArray,List.map_cons,List.map_nil];rfl);refine HCALL.out.mono ?_;rintro e W' ⟨⟨u,rfl⟩,hIe,hKe,hBe⟩;refine ⟨u,rfl,?_⟩)
          go_roundg d
          case measure=>omega
          case rel=>exact ⟨k+1,by simp,⟨by have:=HK4.out;omega⟩,⟨_,hIe,HT4.out⟩,⟨HB4.out.trans hBe⟩⟩
         ·
          have hki:¬ ((k:Int)<(mm:Int)+1):=by omega
          have hd0:gk=0:=by have:=HK4.out;omega
          subst hd0;replace hT4:st'=stF:=hT4;subst hT4;obtain ⟨vc,hcb,hcr⟩:=hI4.chb;have hc6:wr.cell? ⟨w.heap.size,0,none⟩=some vc:=(Q8 hcb 0).trans rfl;have hc7:wr.cell? ⟨w.heap.size+1,0,none⟩=some (.int .i64 st'.sp):=(Q8 hI4.spb 0).trans rfl;have hc8:wr.cell? ⟨w.heap.size+1+1,0,none⟩=some (.int .i64 st'.lo):=(Q8 hI4.lob 0).trans rfl;have hf6:=Qa hcb 0;have hf7:=Qa hI4.spb 0;have hf8:=Qa hI4.lob 0;obtain ⟨Ac,cc,rfl,hcc,hCc⟩:=Kd.R_reads hcr;have HI4:=Q0.mk hI4;have HCR:=Q0.mk hcr;clear hI4 hcr hcb HS4 hCc
          go_wp2
          go_region
          go_wp2
          obtain ⟨g1,g2,g3⟩:=HI4.out.put (s1:=st'.sp) (s2:=st'.lo) HCR.out;obtain ⟨v7,k1,k2⟩:=g1.chb;have hbd:=(g2.1);have hf1:=(QC (Qm (Qm HI4.out.lob (p:=⟨w.heap.size,0,none⟩) HI4.out.n4.2.2.2.1 (.slice Ac st'.ch.length cc)) (p:=⟨w.heap.size+1,0,none⟩) (Ne.symm HI4.out.n4.1) (.int .i64 st'.sp)) 0 (.int .i64 st'.lo) rfl)
          have hk6:(((wr.setCell ⟨w.heap.size,0,none⟩ (.slice Ac st'.ch.length cc)).setCell ⟨w.heap.size+1,0,none⟩ (.int .i64 st'.sp)).setCell ⟨w.heap.size+1+1,0,none⟩ (.int .i64 st'.lo)).heap[w.heap.size]? = some (.cells #[.slice Ac st'.ch.length cc] 37 (0,0)):=by
           obtain ⟨v0,q1,_⟩:=HI4.out.chb
           exact Qm (Qm (QC q1 0 _ rfl) (p:=⟨w.heap.size+1,0,none⟩) (by simp) _) (p:=⟨w.heap.size+1+1,0,none⟩) (by simp;omega) _
          have hRf:Kd.R (Kd.int .i64) 3 (((wr.setCell ⟨w.heap.size,0,none⟩ (.slice Ac st'.ch.length cc)).setCell ⟨w.heap.size+1,0,none⟩ (.int .i64 st'.sp)).setCell ⟨w.heap.size+1+1,0,none⟩ (.int .i64 st'.lo)).drew w.heap.size (fun k_=>w.heap.size≤k_) (.slice Ac st'.ch.length cc) st'.ch :=
           Kd.R_drew (Kd.R_mono (Kd.R_bound (Kd.R_kept HCR.out g2 (fun k hk=>hk))) (fun k hk=>hk.2.1))
          refine bodyPost_ret (results40 _ _ _ _ _ (.slice Ac st'.ch.length cc) st'.sp st'.lo rfl rfl rfl hk6 g1.spb g1.lob) rfl ?_
          exact ⟨_,rfl,Kd.R_V hRf,(HB4.out.trans g3).trans (Yl (Below.refl w.heap.size _))⟩
       ·
        replace hw8:=Bool.eq_false_iff.mpr hw8;rw [if_neg (by rw [hw8];decide)] at hg
        injection hg with e1 hg
        injection hg with e2 hg
        injection hg with e3 e4
        subst e1 e2 e3 e4;have hcb:wr.cell? ⟨w.heap.size,0,none⟩=some (.slice none 0 0):=(Q8 HX.out.x.c 0).trans rfl;have hsb:wr.cell? ⟨w.heap.size+1,0,none⟩=some (.int .i64 0):=(Q8 HX.out.x.s 0).trans rfl;have hlb:wr.cell? ⟨w.heap.size+1+1,0,none⟩=some (.int .i64 0):=(Q8 HX.out.x.l 0).trans rfl;have hfc:=Qa HX.out.x.c 0;have hfs:=Qa HX.out.x.s 0;have hfl:=Qa HX.out.x.l 0
        go_wp2_with (go_at_call 65;refine (OA _ _ _ _).mono ?_;rintro e w' ⟨rfl,⟨nd,rfl⟩⟩)
        have hXf:=(HX.out.x.keep (Q1 (Below.refl _ _) nd)).again;refine bodyPost_ret (results40 _ _ _ _ _ (.slice none 0 0) 0 0 rfl rfl rfl hXf.c hXf.s hXf.l) rfl ?_
        exact ⟨_,rfl,Kd.V_nil _ _ _ _ _,hXf.below⟩
end
end Go.Proofs.Ytmhomdohhihlcaa.P
namespace Go.Proofs.Ytmhomdohhihlcaa.P
open Go.RowKit Go.Shelf Go.Proofs.YtmhomdohhihlcaaW.PrintWords Go.Proofs.YtmhomdohhihlcaaW.PrintLast Go.Proofs.YtmhomdohhihlcaaW.PrintMore
attribute [local go_sem] Oper.semAt_some
set_option maxHeartbeats 4000000 in
set_option maxRecDepth 100000 in
theorem qcQ (n:Nat) (R:Nat) (rb B:Nat) (w:World) (hR1:1≤R) (hR3:R≤3) (hB:B≤rb) (hr:w.heap[rb]? = some (.cells #[.int .i64 R] 3 (0,0))) :
  qaP n Try.prog 95 #[.pointer (some ⟨rb,0,none⟩)] B (Jz (R-1) 100 []) w:=by
 intro l J W hW hJ0 hJ hY h0
 have hmix:Try.prog.follows .mixedOrders=true:=by kernel_rfl
 have hrW:W.heap[rb]? = some (.cells #[.int .i64 R] 3 (0,0)):=(hW.block rb (QO hr)).trans hr
 have hrlt:rb<W.heap.size:=QO hrW
 obtain ⟨Wb,hWb⟩:∃ Wb,(W.alloc (.cells #[.func (.yield l) #[] #[]] 147)).alloc (.cells #[.nilFunc] 87)=Wb:=⟨_,rfl⟩
 have hby:Wb.heap[W.heap.size]? = some (.cells #[.func (.yield l) #[] #[]] 147 (0,0)):=by
  rw [← hWb];exact (Below.heap_alloc _ _ _ (by simp)).trans (World.alloc_heap_new W _)
 have hbf:Wb.heap[W.heap.size+1]? = some (.cells #[.nilFunc] 87 (0,0)):=by
  rw [← hWb];have:=World.alloc_heap_new (W.alloc (.cells #[.func (.yield l) #[] #[]] 147)) (.cells #[.nilFunc] 87);rwa [World.size_alloc] at this
 have hbr:Wb.heap[rb]? = some (.cells #[.int .i64 R] 3 (0,0)):=by
  rw [← hWb];exact (Below.heap_alloc _ _ _ (by simp;omega)).trans ((Below.heap_alloc _ _ _ hrlt).trans hrW)
 have hsz:Wb.heap.size=W.heap.size+2:=by rw [← hWb];simp
 have hcf:=(Q8 hbf 0).trans (show _=some Value.nilFunc from rfl)
 have hff:=Qa hbf 0
 obtain ⟨Wf,hWf⟩:∃ Wf,Wb.setCell ⟨W.heap.size+1,0,none⟩ (.func (.func 96) #[] #[.pointer (some ⟨rb,0,none⟩),.pointer (some ⟨W.heap.size,0,none⟩),.pointer (some ⟨W.heap.size+1,0,none⟩)])=Wf:=⟨_,rfl⟩
 have hfy:Wf.heap[W.heap.size]? = some (.cells #[.func (.yield l) #[] #[]] 147 (0,0)):=by
  rw [← hWf];exact Qm hby (p:=⟨W.heap.size+1,0,none⟩) (by simp) _
 have qmX:Wf.heap[W.heap.size+1]? = some (.cells #[.func (.func 96) #[] #[.pointer (some ⟨rb,0,none⟩),.pointer (some ⟨W.heap.size,0,none⟩),.pointer (some ⟨W.heap.size+1,0,none⟩)]] 87 (0,0)):=by
  rw [← hWf];exact QC hbf 0 _ rfl
 have hfr:Wf.heap[rb]? = some (.cells #[.int .i64 R] 3 (0,0)):=by
  rw [← hWf];exact Qm hbr (p:=⟨W.heap.size+1,0,none⟩) (by simp;omega) _
 have hszf:Wf.heap.size=W.heap.size+2:=by rw [← hWf];simpa using hsz
 have hgf:W.grownBy Wf (some (W.heap.size+1)):=by
  rw [← hWf,← hWb]
  exact ⟨rfl,rfl,rfl,by simp;omega,fun k hk _=>by
   refine (Below.heap_setCell _ _ _ k (by simp;omega)).trans ((Below.heap_alloc _ _ _ (by simp;omega)).trans (Below.heap_alloc _ _ _ hk))⟩
 have hJf:J [] Wf:=hJ0 W Wf _ h0 hgf (fun r e=>by cases e;omega)
 have hcell:=(Q8 qmX 0).trans (show _=some _ from rfl)
 have hcall:=qbd (m:=n-1) (qml n l R rb W.heap.size (W.heap.size+1) B (Jz (R-1) 100 []) J hJ (fun pre v x W1 hj hp hr=>qbj (hY pre v x W1 hj hp hr)) (R-1) 100 [] (.slice none 0 0) [] Wf (by omega) (by omega) (by simp;omega) hR3 (by omega) (Kd.R_nil _ _ _ _ _)
  ⟨hfr,hfy,qmX,hB,by omega,by omega⟩ hJf (List.prefix_refl _))
 have H1:=Q0.mk hfy
 have H2:=Q0.mk qmX
 have H3:=Q0.mk hfr
 clear hfy qmX hfr hbr hby hrW hJf hgf
 refine callsIn_of_wp Try.func95 rfl trivial ?_ rfl
 simp only [Try.ntmps95,List.size_toArray,List.length_cons,List.length_nil,Nat.reduceAdd,Nat.reduceSub,Array.replicate_succ,Array.replicate_zero,List.push_toArray,List.append_toArray,List.nil_append,List.cons_append]
 gi_wp2_with (refine ⟨trivial,fun e=>by simp [Fence.wide] at e,hcall.mono ?_⟩;rintro e W' ⟨rfl,hJ',hk'⟩)
 go_end0
 exact ⟨⟨_,rfl⟩,hJ'⟩
end Go.Proofs.Ytmhomdohhihlcaa.P
namespace Go.Proofs.Ytmhomdohhihlcaa.P
open Go.RowKit Go.Proofs.YtmhomdohhihlcaaW.PrintWords Go.Proofs.YtmhomdohhihlcaaW.PrintLast Go.Proofs.YtmhomdohhihlcaaW.PrintMore
section
attribute [local go_sem] YF YH YY YZ Yq Yr YG YI
def ZG.f (Jl:Int) (G7:Int) (a1:Int):Option (Bool):=if 0≤Jl then (if Jl≤G7 then (some (decide (G7≤a1))) else (some false)) else (some false)
set_option maxHeartbeats 8000000 in
set_option maxRecDepth 100000 in
theorem ZG.calls (Jl:Int) (G7:Int) (a1:Int) (r:Bool) (w:World) (h:ZG.f Jl G7 a1=some r) :
  Calls Try.prog 66 #[.agg #[.int .i64 Jl,.int .i64 G7],.int .i64 a1] w fun e w'=>e = .returned (.bool r)∧Below w.heap.size w w':=by
 have X1:=Try.underlying25
 have HB:=Q0.mk (Below.refl w.heap.size w)
 have H:(if 0≤Jl then (if Jl≤G7 then (some (decide (G7≤a1))) else (some false)) else (some false))=some r:=h
 clear h
 by_cases c3:0≤Jl
 ·
  rw [if_pos c3] at H
  have c3b0:decide (0≤Jl)=true:=decide_eq_true c3
  clear c3
  by_cases c4:Jl≤G7
  ·
   rw [if_pos c4] at H
   have c4b0:decide (Jl≤G7)=true:=decide_eq_true c4
   clear c4
   obtain rfl:=Option.some.inj H
   go_enter Try.func66,Try.ntmps66
   go_wp2_with (first|((with_reducible refine QW (N:=2) rfl ?_);refine Ym ?hg (N:=2) ?hd (cs:=#[.int .i64 Jl,.int .i64 G7]) (t:=25) ?hr ?_;(case hd=>rfl);(case hg=>rfl);(case hr=>first|(go_simp;done)|(go_simp;rfl));intro OS hg w5 hbox hb;have n0_:=Q0.mk (Qi (by repeat (first|(with_reducible first|exact HB.out|apply Q2|apply Q1|apply Q4)|exact HB.out)) hb);have n1_:=Q0.mk (hbox);have n2_:=Q0.mk ((by rw [hg];exact (Qe (by repeat (first|(with_reducible first|exact HB.out|apply Q2|apply Q1|apply Q4)|exact HB.out))):w.heap.size≤OS));have n3_:=n2_;clear HB;have HB:=n0_;have OO:=n1_;have qor:=n2_;have qeS:=n3_;clear n0_ n1_ n2_ n3_ hb hbox hg;have Xg:w5.cell? ⟨OS,0,none⟩=some (.int .i64 Jl):=(Q8 OO.out 0).trans rfl;have Xh:w5.cell? ⟨OS,1,none⟩=some (.int .i64 G7):=(Q8 OO.out 1).trans rfl;have Xi:=Qa OO.out 0;have Xj:=Qa OO.out 1))
   go_ret
   exact ⟨by first|rfl|(simp [Qv,Qw]<;>rfl)|(simp [*,Qv,Qw]<;>rfl),by repeat (first|(with_reducible first|exact HB.out|apply Q2|apply Q1|apply Q4|refine Q7 ?_ qeS.out)|exact HB.out)⟩
  rw [if_neg c4] at H
  have c4b0:decide (Jl≤G7)=false:=decide_eq_false c4
  clear c4
  obtain rfl:=Option.some.inj H
  go_enter Try.func66,Try.ntmps66
  go_wp2_with (first|((with_reducible refine QW (N:=2) rfl ?_);refine Ym ?hg (N:=2) ?hd (cs:=#[.int .i64 Jl,.int .i64 G7]) (t:=25) ?hr ?_;(case hd=>rfl);(case hg=>rfl);(case hr=>first|(go_simp;done)|(go_simp;rfl));intro OS hg w7 hbox hb;have n0_:=Q0.mk (Qi (by repeat (first|(with_reducible first|exact HB.out|apply Q2|apply Q1|apply Q4)|exact HB.out)) hb);have n1_:=Q0.mk (hbox);have n2_:=Q0.mk ((by rw [hg];exact (Qe (by repeat (first|(with_reducible first|exact HB.out|apply Q2|apply Q1|apply Q4)|exact HB.out))):w.heap.size≤OS));have n3_:=n2_;clear HB;have HB:=n0_;have OO:=n1_;have qor:=n2_;have qeS:=n3_;clear n0_ n1_ n2_ n3_ hb hbox hg;have qdK:w7.cell? ⟨OS,0,none⟩=some (.int .i64 Jl):=(Q8 OO.out 0).trans rfl;have qdL:w7.cell? ⟨OS,1,none⟩=some (.int .i64 G7):=(Q8 OO.out 1).trans rfl;have qdY:=Qa OO.out 0;have qdZ:=Qa OO.out 1))
  go_ret
  exact ⟨by first|rfl|(simp [Qv,Qw]<;>rfl)|(simp [*,Qv,Qw]<;>rfl),by repeat (first|(with_reducible first|exact HB.out|apply Q2|apply Q1|apply Q4|refine Q7 ?_ qeS.out)|exact HB.out)⟩
 rw [if_neg c3] at H
 have c3b0:decide (0≤Jl)=false:=decide_eq_false c3
 clear c3
 obtain rfl:=Option.some.inj H
 go_enter Try.func66,Try.ntmps66
 go_wp2_with (first|((with_reducible refine QW (N:=2) rfl ?_);refine Ym ?hg (N:=2) ?hd (cs:=#[.int .i64 Jl,.int .i64 G7]) (t:=25) ?hr ?_;(case hd=>rfl);(case hg=>rfl);(case hr=>first|(go_simp;done)|(go_simp;rfl));intro OS hg w9 hbox hb;have n0_:=Q0.mk (Qi (by repeat (first|(with_reducible first|exact HB.out|apply Q2|apply Q1|apply Q4)|exact HB.out)) hb);have n1_:=Q0.mk (hbox);have n2_:=Q0.mk ((by rw [hg];exact (Qe (by repeat (first|(with_reducible first|exact HB.out|apply Q2|apply Q1|apply Q4)|exact HB.out))):w.heap.size≤OS));have n3_:=n2_;clear HB;have HB:=n0_;have OO:=n1_;have qor:=n2_;have qeS:=n3_;clear n0_ n1_ n2_ n3_ hb hbox hg;have Gl:w9.cell? ⟨OS,0,none⟩=some (.int .i64 Jl):=(Q8 OO.out 0).trans rfl;have Gm:w9.cell? ⟨OS,1,none⟩=some (.int .i64 G7):=(Q8 OO.out 1).trans rfl;have Gn:=Qa OO.out 0;have Gp:=Qa OO.out 1))
 go_ret
 exact ⟨by first|rfl|(simp [Qv,Qw]<;>rfl)|(simp [*,Qv,Qw]<;>rfl),by repeat (first|(with_reducible first|exact HB.out|apply Q2|apply Q1|apply Q4|refine Q7 ?_ qeS.out)|exact HB.out)⟩
end
section
attribute [local go_sem] YF YH YY YZ Yq Yr YG YI
mutual
def Qy.j0:Nat→List (S25)→Bool→Option (Bool)
 | 0,_,_=>none
 | k+1,x0,x5=>Qy.l0 k x5 x0 (x0.length:Int) 0
def Qy.l0:Nat→Bool→List (S25)→Int→Int→Option (Bool)
 | 0,_,_,_,_=>none
 | k+1,x5,x16,x17,x18=>if x18<x17 then (if 0≤x18 then (if x18<(x16.length:Int) then (if x5=true then ((ZG.f ((Qs x16 x18).f0) ((Qs x16 x18).f1) 100).bind fun t131=>(Qy.l0 k t131 x16 x17 (wrap64 (x18+1)))) else (Qy.l0 k false x16 x17 (wrap64 (x18+1)))) else (none)) else (none)) else (some x5)
end
def Qy.f (k:Nat) (l0:List (S25)) (a1:Int):Option (Bool):=(Qj.f a1 1 6).bind fun qjK=>(if qjK=true then (Qy.j0 k l0 ((l0.length:Int)==a1)) else (Qy.j0 k l0 false))
theorem Qy.mono_l:∀ k,(∀ y0 y1,LeO (Qy.j0 k y0 y1) (Qy.j0 (k+1) y0 y1))∧(∀ y0 y1 y2 y3,LeO (Qy.l0 k y0 y1 y2 y3) (Qy.l0 (k+1) y0 y1 y2 y3))
 | 0=>⟨fun _ _ r h=>by simp [Qy.j0] at h,fun _ _ _ _ r h=>by simp [Qy.l0] at h⟩
 | k+1=>by
  obtain ⟨ih0,ih1⟩:=Qy.mono_l k
  refine ⟨?_,?_⟩
  ·
   intro y0 y1
   unfold Qy.j0
   repeat' first
   | (with_reducible exact ih0 _ _)
   | (with_reducible exact ih1 _ _ _ _)
   | (with_reducible exact LeO.refl _)
   | (with_reducible exact LeO.none _)
   | (with_reducible refine LeO.ite ?_ ?_)
   | (with_reducible refine LeO.bind ?_ (fun _ => ?_))
   | exact ih0 _ _
   | exact ih1 _ _ _ _
   | exact LeO.none _
   | refine LeO.ite ?_ ?_
   | refine LeO.bind ?_ (fun _ => ?_)
  intro y0 y1 y2 y3
  unfold Qy.l0
  repeat' first
  | (with_reducible exact ih0 _ _)
  | (with_reducible exact ih1 _ _ _ _)
  | (with_reducible exact LeO.refl _)
  | (with_reducible exact LeO.none _)
  | (with_reducible refine LeO.ite ?_ ?_)
  | (with_reducible refine LeO.bind ?_ (fun _ => ?_))
  | exact ih0 _ _
  | exact ih1 _ _ _ _
  | exact LeO.none _
  | refine LeO.ite ?_ ?_
  | refine LeO.bind ?_ (fun _ => ?_)
theorem Qy.mono:∀ a0 a1 k,LeO (Qy.f k a0 a1) (Qy.f (k+1) a0 a1):=by
 intro a0 a1 k
 obtain ⟨ih0,ih1⟩:=Qy.mono_l k
 unfold Qy.f
 repeat' first
   | (with_reducible exact ih0 _ _)
   | (with_reducible exact ih1 _ _ _ _)
   | (with_reducible exact LeO.refl _)
   | (with_reducible exact LeO.none _)
   | (with_reducible refine LeO.ite ?_ ?_)
   | (with_reducible refine LeO.bind ?_ (fun _ => ?_))
   | exact ih0 _ _
   | exact ih1 _ _ _ _
   | exact LeO.none _
   | refine LeO.ite ?_ ?_
   | refine LeO.bind ?_ (fun _ => ?_)
set_option maxHeartbeats 8000000 in
set_option maxRecDepth 100000 in
theorem Qy.calls (k:Nat) (A0:Option Addr) (c0:Nat) (l0:List (S25)) (a1:Int) (r:Bool) (w:World) (hr0:Kd.C k25 w A0 l0.length l0) (hc0:l0.length≤c0) (h:Qy.f k l0 a1=some r) :
  Calls Try.prog 67 #[.slice A0 l0.length c0,.int .i64 a1] w fun e w'=>e = .returned (.bool r)∧Below w.heap.size w w':=by
 have X1:=Try.underlying25
 have HR0:=Q0.mk hr0
 have HC0:=Q0.mk hc0
 clear hr0 hc0
 have HB:=Q0.mk (Below.refl w.heap.size w)
 have H:((Qj.f a1 1 6).bind fun qjK=>(if qjK=true then (Qy.j0 k l0 ((l0.length:Int)==a1)) else (Qy.j0 k l0 false)))=some r:=h
 clear h
 have HC3:=Q0.mk H
 clear H
 go_enter Try.func67,Try.ntmps67
 go_upto_region 1 with (fail)
 go_cut [5] (fun v5 wc => ∃ (kq:Nat) (QY:Bool),v5 = .bool QY∧Q0 (Qy.j0 kq l0 QY=some r)∧Q0 (kq≤k)∧Q0 (Below w.heap.size w wc))
 case first =>
  have H:=HC3.out
  clear HC3
  replace H:=Option.bind_eq_some_iff.mp H
  obtain ⟨qjK,A40,H⟩:=H
  replace H:(if qjK=true then (Qy.j0 k l0 ((l0.length:Int)==a1)) else (Qy.j0 k l0 false))=some r:=H
  have A4:=Q0.mk A40
  clear A40
  by_cases c5:qjK=true
  ·
   subst c5
   have H1:(Qy.j0 k l0 ((l0.length:Int)==a1))=some r:=by rw [if_pos rfl] at H;exact H
   clear H
   have H:=H1
   clear H1
   have H':=Q0.mk H
   clear H
   go_wp2_with (first|((with_reducible refine Qz (f:=65) rfl ?_);refine Yo (some 9) rfl rfl Try.func65 (by kernel_rfl) rfl #[.int .i64 a1,.int .i64 1,.int .i64 6] rfl (by (try simp only [List.map_toArray,List.map_cons,List.map_nil]);first|done|rfl|(simp only [List.length_drop,List.length_take];rfl)) ?_;(with_reducible refine (Qj.calls a1 1 6 true _ A4.out).mono ?_);rintro e w' ⟨rfl,⟨nd,rfl⟩⟩;refine ⟨_,rfl,?_⟩))
   go_meet
   case rel=>exact ⟨_,(((l0.length:Int)==a1)),(by first|rfl|(simp;done)|(simp [*];done)),H',⟨by first|omega|exact Nat.le_refl _⟩,⟨by repeat (first|(with_reducible first|exact HB.out|apply Q2|apply Q1|apply Q4)|exact HB.out)⟩⟩
  replace c5:=Bool.eq_false_iff.mpr c5
  subst c5
  have H1:(Qy.j0 k l0 false)=some r:=by rw [if_neg (show ¬ (false=true) by decide)] at H;exact H
  clear H
  have H:=H1
  clear H1
  have H':=Q0.mk H
  clear H
  go_wp2_with (first|((with_reducible refine Qz (f:=65) rfl ?_);refine Yo (some 9) rfl rfl Try.func65 (by kernel_rfl) rfl #[.int .i64 a1,.int .i64 1,.int .i64 6] rfl (by (try simp only [List.map_toArray,List.map_cons,List.map_nil]);first|done|rfl|(simp only [List.length_drop,List.length_take];rfl)) ?_;(with_reducible refine (Qj.calls a1 1 6 false _ A4.out).mono ?_);rintro e w' ⟨rfl,⟨nd,rfl⟩⟩;refine ⟨_,rfl,?_⟩))
  go_meet
  case rel=>exact ⟨_,(false),(by first|rfl|(simp;done)|(simp [*];done)),H',⟨by first|omega|exact Nat.le_refl _⟩,⟨by repeat (first|(with_reducible first|exact HB.out|apply Q2|apply Q1|apply Q4)|exact HB.out)⟩⟩
 case rest =>
  clear HC3
  try clear p2
  try clear c5
  obtain ⟨kq,QY,rfl,HA,HJ2,HB⟩:=hcut
  cases kq with
  | zero=>exact absurd HA.out (by simp [Qy.j0])
  | succ kj2 =>
   have H:=HA.out
   clear HA
   simp only [Qy.j0] at H
   have H':=Q0.mk H
   clear H
   go_wp2
   go_loopg [5,18] kj2 (fun kq v5 v18 w' => ∃ (QY:Bool) (J1:Int),v5 = .bool QY∧v18 = .int .i64 J1∧Q0 (Qy.l0 kq QY l0 (l0.length:Int) J1=some r)∧Q0 (kq≤kj2)∧Q0 (Below w.heap.size w w'))
   case atStart=>exact ⟨(QY),(0),(by first|rfl|(simp;done)|(simp [*];done)),(by first|rfl|(simp;done)|(simp [*];done)),H',⟨Nat.le_refl _⟩,⟨by repeat (first|(with_reducible first|exact HB.out|apply Q2|apply Q1|apply Q4)|exact HB.out)⟩⟩
   case round =>
    clear H';(try clear p2);(try clear c5);(try clear p2);obtain ⟨QY,J1,rfl,rfl,HA,HK2,HB⟩:=hrel
    cases gk with
    | zero=>exact absurd HA.out (by simp [Qy.l0])
    | succ k2 =>
     have H:=HA.out;clear HA;simp only [Qy.l0] at H
     by_cases c6:J1<(l0.length:Int)
     ·
      rw [if_pos c6] at H;have c6b0:decide (J1<(l0.length:Int))=true:=decide_eq_true c6;clear c6
      by_cases c7:0≤J1
      ·
       rw [if_pos c7] at H;have c7b0:decide (0≤J1)=true:=decide_eq_true c7;clear c7
       by_cases c8:J1<(l0.length:Int)
       ·
        rw [if_pos c8] at H;have c8b0:decide (J1<(l0.length:Int))=true:=decide_eq_true c8;clear c8
        by_cases c9:QY=true
        ·
         subst c9
         have H1:((ZG.f ((Qs l0 J1).f0) ((Qs l0 J1).f1) 100).bind fun t131=>(Qy.l0 k2 t131 l0 (l0.length:Int) (wrap64 (J1+1))))=some r:=by rw [if_pos rfl] at H;exact H
         clear H;have H:=H1;clear H1;replace H:=Option.bind_eq_some_iff.mp H;obtain ⟨t131,qkd,H⟩:=H;replace H:(Qy.l0 k2 t131 l0 (l0.length:Int) (wrap64 (J1+1)))=some r:=H;have A10:=Q0.mk qkd;clear qkd;have H':=Q0.mk H;clear H;have qgW:0≤(J1:Int):=of_decide_eq_true (by first|(with_reducible assumption)|assumption);have qg9:J1<(l0.length:Int):=of_decide_eq_true (by first|(with_reducible assumption)|assumption);obtain ⟨qrp,e129,US,UT⟩:=JM HR0.out J1 qgW qg9;cases e129;replace US:=(HB.out.cell (World.block_lt_of_cell? w _ US)).trans US;replace UT:=(HB.out.cell (World.block_lt_of_cell? w _ UT)).trans UT;replace qgW:=eq_true qgW;replace qg9:=eq_true qg9
         go_wp2_with (first|((with_reducible refine QW (N:=7) rfl ?_);(try (refine Ga (by rfl) ?_;dsimp only));refine Ym ?hg (N:=7) ?hd (cs:=#[.int .i64 0,.int .i64 0]) (t:=25) ?hr ?_;(case hd=>rfl);(case hg=>rfl);(case hr=>first|(go_simp;done)|(go_simp;rfl));intro X9 hg w11 hbox hb;have n0_:=Q0.mk (Qi (by repeat (first|(with_reducible first|exact HB.out|apply Q2|apply Q1|apply Q4)|exact HB.out)) hb);have n1_:=Q0.mk (hbox);have n2_:=Q0.mk ((by rw [hg];exact (Qe (by repeat (first|(with_reducible first|exact HB.out|apply Q2|apply Q1|apply Q4)|exact HB.out))):w.heap.size≤X9));have n3_:=n2_;clear HB;have HB:=n0_;have W7:=n1_;have qqZ:=n2_;have qhN:=n3_;clear n0_ n1_ n2_ n3_ hb hbox hg;have XK:w11.cell? ⟨X9,0,none⟩=some (.int .i64 0):=(Q8 W7.out 0).trans rfl;have XL:w11.cell? ⟨X9,1,none⟩=some (.int .i64 0):=(Q8 W7.out 1).trans rfl;have XV:=Qa W7.out 0;have XW:=Qa W7.out 1)|(go_at_call 66;(with_reducible refine (ZG.calls ((Qs l0 J1).f0) ((Qs l0 J1).f1) 100 t131 _ A10.out).mono ?_);rintro e w13 ⟨rfl,hb⟩;have n0_:=Q0.mk (Qf (g:=X9) (o:=.cells #[.int .i64 ((Qs l0 J1).f0),.int .i64 ((Qs l0 J1).f1)] 25 (0,0)) (by (with_reducible repeat (first|refine Q5 ?_ _|refine Q6 ?_|refine Q3 ?_ _));refine QC (cs:=#[.int .i64 ((Qs l0 J1).f0),.int .i64 0]) ?_ 1 _ rfl;(with_reducible repeat (first|refine Q5 ?_ _|refine Q6 ?_|refine Q3 ?_ _));refine QC (cs:=#[.int .i64 0,.int .i64 0]) ?_ 0 _ rfl;(with_reducible repeat (first|refine Q5 ?_ _|refine Q6 ?_|refine Q3 ?_ _));exact W7.out) hb);have n1_:=Q0.mk (Qi (by repeat (first|(with_reducible first|exact HB.out|apply Q2|apply Q1|apply Q4|refine Q7 ?_ qhN.out)|exact HB.out)) hb);clear W7 HB;have W7:=n0_;have HB:=n1_;clear n0_ n1_;(try clear hb);(try clear hb2);(try clear hk);(try clear hi)))
         go_roundg k2
         case measure=>have:=HJ2.out;have:=HK2.out;omega
         case rel=>exact ⟨(t131),(wrap64 (J1+1)),(by first|rfl|(simp;done)|(simp [*];done)),(by first|rfl|(simp;done)|(simp [*];done)),H',⟨by have:=HJ2.out;have:=HK2.out;omega⟩,⟨by repeat (first|(with_reducible first|exact HB.out|apply Q2|apply Q1|apply Q4|refine Q7 ?_ qhN.out)|exact HB.out)⟩⟩
        replace c9:=Bool.eq_false_iff.mpr c9;subst c9
        have H1:(Qy.l0 k2 false l0 (l0.length:Int) (wrap64 (J1+1)))=some r:=by rw [if_neg (show ¬ (false=true) by decide)] at H;exact H
        clear H;have H:=H1;clear H1;have H':=Q0.mk H;clear H;have qgW:0≤(J1:Int):=of_decide_eq_true (by first|(with_reducible assumption)|assumption);have qg9:J1<(l0.length:Int):=of_decide_eq_true (by first|(with_reducible assumption)|assumption);obtain ⟨qrp,e129,US,UT⟩:=JM HR0.out J1 qgW qg9;cases e129;replace US:=(HB.out.cell (World.block_lt_of_cell? w _ US)).trans US;replace UT:=(HB.out.cell (World.block_lt_of_cell? w _ UT)).trans UT;replace qgW:=eq_true qgW;replace qg9:=eq_true qg9
        go_wp2_with (first|((with_reducible refine QW (N:=7) rfl ?_);(try (refine Ga (by rfl) ?_;dsimp only));refine Ym ?hg (N:=7) ?hd (cs:=#[.int .i64 0,.int .i64 0]) (t:=25) ?hr ?_;(case hd=>rfl);(case hg=>rfl);(case hr=>first|(go_simp;done)|(go_simp;rfl));intro X9 hg w14 hbox hb;have n0_:=Q0.mk (Qi (by repeat (first|(with_reducible first|exact HB.out|apply Q2|apply Q1|apply Q4)|exact HB.out)) hb);have n1_:=Q0.mk (hbox);have n2_:=Q0.mk ((by rw [hg];exact (Qe (by repeat (first|(with_reducible first|exact HB.out|apply Q2|apply Q1|apply Q4)|exact HB.out))):w.heap.size≤X9));have n3_:=n2_;clear HB;have HB:=n0_;have W7:=n1_;have qqZ:=n2_;have qhN:=n3_;clear n0_ n1_ n2_ n3_ hb hbox hg;have Og:w14.cell? ⟨X9,0,none⟩=some (.int .i64 0):=(Q8 W7.out 0).trans rfl;have Oh:w14.cell? ⟨X9,1,none⟩=some (.int .i64 0):=(Q8 W7.out 1).trans rfl;have Om:=Qa W7.out 0;have On:=Qa W7.out 1))
        go_roundg k2
        case measure=>have:=HJ2.out;have:=HK2.out;omega
        case rel=>exact ⟨(false),(wrap64 (J1+1)),(by first|rfl|(simp;done)|(simp [*];done)),(by first|rfl|(simp;done)|(simp [*];done)),H',⟨by have:=HJ2.out;have:=HK2.out;omega⟩,⟨by repeat (first|(with_reducible first|exact HB.out|apply Q2|apply Q1|apply Q4|refine Q7 ?_ qhN.out)|exact HB.out)⟩⟩
       rw [if_neg c8] at H
       exact absurd H (by simp)
      rw [if_neg c7] at H
      exact absurd H (by simp)
     rw [if_neg c6] at H;have c6b0:decide (J1<(l0.length:Int))=false:=decide_eq_false c6;clear c6;obtain rfl:=Option.some.inj H
     go_wp2
     go_ret
     exact ⟨by first|rfl|(simp [Qv,Qw]<;>rfl)|(simp [*,Qv,Qw]<;>rfl),by repeat (first|(with_reducible first|exact HB.out|apply Q2|apply Q1|apply Q4)|exact HB.out)⟩
end
section
attribute [local go_sem] YF YH YY YZ Yq Yr YG YI
def QS.l0:Nat→Int→List Int→Int→Int→Option (Int)
 | 0,_,_,_,_=>none
 | k+1,x3,x6,x7,x8=>if x8<x7 then (if 0≤x8 then (if x8<(x6.length:Int) then (QS.l0 k (wrap64 (x3+(rd x6 x8))) x6 x7 (wrap64 (x8+1))) else (none)) else (none)) else (some x3)
def QS.f (k:Nat) (l0:List Int):Option (Int):=QS.l0 k 0 l0 (l0.length:Int) 0
theorem QS.mono_l:∀ k,(∀ y0 y1 y2 y3,LeO (QS.l0 k y0 y1 y2 y3) (QS.l0 (k+1) y0 y1 y2 y3))
 | 0=>fun _ _ _ _ r h=>by simp [QS.l0] at h
 | k+1=>by
  have ih0:=QS.mono_l k
  intro y0 y1 y2 y3
  unfold QS.l0
  repeat' first
  | (with_reducible exact ih0 _ _ _ _)
  | (with_reducible exact LeO.refl _)
  | (with_reducible exact LeO.none _)
  | (with_reducible refine LeO.ite ?_ ?_)
  | (with_reducible refine LeO.bind ?_ (fun _ => ?_))
  | exact ih0 _ _ _ _
  | exact LeO.none _
  | refine LeO.ite ?_ ?_
  | refine LeO.bind ?_ (fun _ => ?_)
theorem QS.mono:∀ a0 k,LeO (QS.f k a0) (QS.f (k+1) a0):=by
 intro a0 k
 have ih0:=QS.mono_l k
 unfold QS.f
 repeat' first
   | (with_reducible exact ih0 _ _ _ _)
   | (with_reducible exact LeO.refl _)
   | (with_reducible exact LeO.none _)
   | (with_reducible refine LeO.ite ?_ ?_)
   | (with_reducible refine LeO.bind ?_ (fun _ => ?_))
   | exact ih0 _ _ _ _
   | exact LeO.none _
   | refine LeO.ite ?_ ?_
   | refine LeO.bind ?_ (fun _ => ?_)
set_option maxHeartbeats 8000000 in
set_option maxRecDepth 100000 in
theorem QS.calls (k:Nat) (A0:Option Addr) (c0:Nat) (l0:List Int) (r:Int) (w:World) (hr0:Kd.C (Kd.int .i64) w A0 l0.length l0) (hc0:l0.length≤c0) (h:QS.f k l0=some r) :
  Calls Try.prog 97 #[.slice A0 l0.length c0] w fun e w'=>e = .returned (.int .i64 r)∧Yu w w':=by
 have HR0:=Q0.mk hr0
 have HC0:=Q0.mk hc0
 clear hr0 hc0
 have H:(QS.l0 k 0 l0 (l0.length:Int) 0)=some r:=h
 clear h
 have H':=Q0.mk H
 clear H
 go_enter Try.func97,Try.ntmps97
 go_wp2
 go_loopg [3,8] k (fun kq v3 v8 w' => ∃ (qom:Int) (Ux:Int),v3 = .int .i64 qom∧v8 = .int .i64 Ux∧Q0 (QS.l0 kq qom l0 (l0.length:Int) Ux=some r)∧Q0 (kq≤k)∧Yu w w')
 case atStart=>exact ⟨(0),(0),(by first|rfl|(simp;done)|(simp [*];done)),(by first|rfl|(simp;done)|(simp [*];done)),H',⟨Nat.le_refl _⟩,by repeat (first|exact Yu.refl _|apply Yu.step)⟩
 case round =>
  clear H'
  obtain ⟨qom,Ux,rfl,rfl,HA,HK1,⟨m1,rfl⟩⟩:=hrel
  cases gk with
  | zero=>exact absurd HA.out (by simp [QS.l0])
  | succ k1 =>
   have H:=HA.out
   clear HA
   simp only [QS.l0] at H
   by_cases c2:Ux<(l0.length:Int)
   ·
    rw [if_pos c2] at H;have c2b0:decide (Ux<(l0.length:Int))=true:=decide_eq_true c2;clear c2
    by_cases c3:0≤Ux
    ·
     rw [if_pos c3] at H;have c3b0:decide (0≤Ux)=true:=decide_eq_true c3;clear c3
     by_cases c4:Ux<(l0.length:Int)
     ·
      rw [if_pos c4] at H;have c4b0:decide (Ux<(l0.length:Int))=true:=decide_eq_true c4;clear c4;have H':=Q0.mk H;clear H;have qp9:0≤(Ux:Int):=of_decide_eq_true (by first|(with_reducible assumption)|assumption);have qqg:Ux<(l0.length:Int):=of_decide_eq_true (by first|(with_reducible assumption)|assumption);obtain ⟨qBS,qAe,qzJ⟩:=Kd.at_int HR0.out Ux qp9 qqg;cases qAe;replace qp9:=eq_true qp9;replace qqg:=eq_true qqg
      go_wp2
      go_roundg k1
      case measure=>have:=HK1.out;omega
      case rel=>exact ⟨(wrap64 (qom+(rd l0 Ux))),(wrap64 (Ux+1)),(by first|rfl|(simp;done)|(simp [*];done)),(by first|rfl|(simp;done)|(simp [*];done)),H',⟨by have:=HK1.out;omega⟩,by repeat (first|exact Yu.refl _|apply Yu.step)⟩
     rw [if_neg c4] at H
     exact absurd H (by simp)
    rw [if_neg c3] at H
    exact absurd H (by simp)
   rw [if_neg c2] at H
   have c2b0:decide (Ux<(l0.length:Int))=false:=decide_eq_false c2
   clear c2
   obtain rfl:=Option.some.inj H
   go_wp2
   go_ret
   exact ⟨by first|rfl|(simp;done)|(simp [*];done),by repeat (first|exact Yu.refl _|apply Yu.step)⟩
end
section
def JL.f (a b:Int):Option Int:=some a
def JA.f (a b:Int):Option Int:=some b
theorem JL.calls (a b r:Int) (w:World) (h:JL.f a b=some r) :
  Calls Try.prog 68 #[.agg #[.int .i64 a,.int .i64 b]] w fun e w'=>e = .returned (.int .i64 r)∧Below w.heap.size w w':=by
 unfold JL.f at h
 injection h with h
 subst h
 have X1:=Try.underlying25
 go_enter Try.func68,Try.ntmps68
 go_wp2
 go_ret
 exact ⟨rfl,(Below.refl _ w).alloc (Nat.le_refl _) _⟩
theorem JA.calls (a b r:Int) (w:World) (h:JA.f a b=some r) :
  Calls Try.prog 69 #[.agg #[.int .i64 a,.int .i64 b]] w fun e w'=>e = .returned (.int .i64 r)∧Below w.heap.size w w':=by
 unfold JA.f at h
 injection h with h
 subst h
 have X1:=Try.underlying25
 go_enter Try.func69,Try.ntmps69
 go_wp2
 go_ret
 exact ⟨rfl,(Below.refl _ w).alloc (Nat.le_refl _) _⟩
end
section
attribute [local go_sem] YF YH YY YZ Yq Yr YG YI
def QG.l0:Nat→List (List (S25))→Int→List Int→List Int→Int→Int→Option (Int)
 | 0,_,_,_,_,_,_=>none
 | k+1,x2,x3,x9,x12,x13,x14=>if x14<x13 then (if 0≤x14 then (if x14<(x12.length:Int) then (if x14<(x2.length:Int) then (if 0≤x3 then (if x3<((Yh x2 x14).length:Int) then ((JL.f ((Qs (Yh x2 x14) x3).f0) ((Qs (Yh x2 x14) x3).f1)).bind fun Xs=>(if x9.length<17592186044416 then (QG.l0 k x2 x3 (x9++[wrap64 ((rd x12 x14)*Xs)]) x12 x13 (wrap64 (x14+1))) else (none))) else (none)) else (none)) else (none)) else (none)) else (none)) else ((QS.f k x9).bind fun t141=>(some t141))
def QG.f (k:Nat) (Jl:Int) (l1:List Int) (l2:List (List (S25))) (a3:Int):Option (Int):=QG.l0 k l2 a3 ([]:List Int) l1 (l1.length:Int) 0
theorem QG.mono_l:∀ k,(∀ y0 y1 y2 y3 y4 y5,LeO (QG.l0 k y0 y1 y2 y3 y4 y5) (QG.l0 (k+1) y0 y1 y2 y3 y4 y5))
 | 0=>fun _ _ _ _ _ _ r h=>by simp [QG.l0] at h
 | k+1=>by
  have ih0:=QG.mono_l k
  intro y0 y1 y2 y3 y4 y5
  unfold QG.l0
  repeat' first
  | (with_reducible exact ih0 _ _ _ _ _ _)
  | (with_reducible exact QS.mono _ _)
  | (with_reducible exact LeO.refl _)
  | (with_reducible exact LeO.none _)
  | (with_reducible refine LeO.ite ?_ ?_)
  | (with_reducible refine LeO.bind ?_ (fun _ => ?_))
  | exact ih0 _ _ _ _ _ _
  | exact QS.mono _ _
  | exact LeO.none _
  | refine LeO.ite ?_ ?_
  | refine LeO.bind ?_ (fun _ => ?_)
theorem QG.mono:∀ a0 a1 a2 a3 k,LeO (QG.f k a0 a1 a2 a3) (QG.f (k+1) a0 a1 a2 a3):=by
 intro a0 a1 a2 a3 k
 have ih0:=QG.mono_l k
 unfold QG.f
 repeat' first
   | (with_reducible exact ih0 _ _ _ _ _ _)
   | (with_reducible exact QS.mono _ _)
   | (with_reducible exact LeO.refl _)
   | (with_reducible exact LeO.none _)
   | (with_reducible refine LeO.ite ?_ ?_)
   | (with_reducible refine LeO.bind ?_ (fun _ => ?_))
   | exact ih0 _ _ _ _ _ _
   | exact QS.mono _ _
   | exact LeO.none _
   | refine LeO.ite ?_ ?_
   | refine LeO.bind ?_ (fun _ => ?_)
def QG.T5:Bool × List (List Nat × List Nat):=(true,[([],[]),([],[]),([],[]),([2],[2]),([],[]),([],[]),([4,5],[4,5]),([6],[6]),([],[]),([7,8],[7,8]),([9],[9]),([3,10],[3,10]),([1,11],[1,11]),([12],[12]),([0,13,11],[0,13]),([14,14,0,1,2,3,4,5,6,7,8,9,10,11,12,13,14],[0,14])])
def QG.B5:List Nat:=[0,0,0,4,0,0,48,112,0,496,1008,2044,4094,8190,16383,32767]
theorem QG.tab5:rtab .any (qcy Try.f71 5)=QG.T5:=by kernel_rfl
theorem QG.bits5:KL QG.T5.2 QG.B5=true:=by kernel_rfl
set_option maxHeartbeats 8000000 in
set_option maxRecDepth 100000 in
theorem QG.calls (k:Nat) (Jl:Int) (A1:Option Addr) (c1:Nat) (l1:List Int) (A2:Option Addr) (c2:Nat) (l2:List (List (S25))) (a3:Int) (r:Int) (w:World) (hr1:Kd.C (Kd.int .i64) w A1 l1.length l1) (hc1:l1.length≤c1) (hr2:Kd.C (Kd.slice 25 k25) w A2 l2.length l2) (hc2:l2.length≤c2) (h:QG.f k Jl l1 l2 a3=some r) :
  Calls Try.prog 71 #[.agg #[.func (.func 68) #[] #[]],.slice A1 l1.length c1,.slice A2 l2.length c2,.int .i64 a3] w fun e w'=>e = .returned (.int .i64 r)∧Below w.heap.size w w':=by
 have qtJ:=Try.underlying104
 have X1:=Try.underlying25
 have HR1:=Q0.mk hr1
 have HC1:=Q0.mk hc1
 clear hr1 hc1
 have HR2:=Q0.mk hr2
 have HC2:=Q0.mk hc2
 clear hr2 hc2
 have HB:=Q0.mk (Below.refl w.heap.size w)
 have H:(QG.l0 k l2 a3 ([]:List Int) l1 (l1.length:Int) 0)=some r:=h
 clear h
 have H':=Q0.mk H
 clear H
 go_enter Try.func71,Try.ntmps71
 go_wp2_with (first|((with_reducible refine QW (N:=4) rfl ?_);refine Ym ?hg (N:=4) ?hd (cs:=#[.func (.func 68) #[] #[]]) (t:=104) ?hr ?_;(case hd=>rfl);(case hg=>rfl);(case hr=>first|(go_simp;done)|(go_simp;rfl));intro UM hg w5 hbox hb;have n0_:=Q0.mk (Qi (by repeat (first|(with_reducible first|exact HB.out|apply Q2|apply Q1|apply Q4)|exact HB.out)) hb);have n1_:=Q0.mk (hbox);have n2_:=Q0.mk ((by rw [hg];exact (Qe (by repeat (first|(with_reducible first|exact HB.out|apply Q2|apply Q1|apply Q4)|exact HB.out))):w.heap.size≤UM));have n3_:=n2_;clear HB;have HB:=n0_;have Ja:=n1_;have qq0:=n2_;have UB:=n3_;clear n0_ n1_ n2_ n3_ hb hbox hg))
 go_loopg [9,14] k (fun kq v9 v14 w' => ∃ (Uy:List Int) (YU:Int),v14 = .int .i64 YU∧Q0 (QG.l0 kq l2 a3 Uy l1 (l1.length:Int) YU=some r)∧Q0 (kq≤k)∧Q0 (Kd.R (Kd.int .i64) 3 w' w.heap.size (fun _=>True) v9 Uy)∧Q0 (w'.heap[UM]? = some (.cells #[.func (.func 68) #[] #[]] 104 (0,0)))∧Q0 (Below w.heap.size w w'))
 case atStart=>exact ⟨(([]:List Int)),(0),(by first|rfl|(simp;done)|(simp [*];done)),H',⟨Nat.le_refl _⟩,⟨by first|exact Kd.R_nil _ _ _ _ _|exact Kd.N_nil _ _ _ _ _|exact Kd.V_nil _ _ _ _ _|exact Kd.Q_nil _ _ _ _ _|exact Kd.S_nil _ _ _ _ _⟩,⟨by (with_reducible repeat (first|refine Q5 ?_ _|refine Q6 ?_|refine Q3 ?_ _));exact Ja.out⟩,⟨by repeat (first|(with_reducible first|exact HB.out|apply Q2|apply Q1|apply Q4|refine Q7 ?_ UB.out)|exact HB.out)⟩⟩
 case round =>
  clear H'
  try clear c1
  try clear c2
  try clear p2
  obtain ⟨Uy,YU,rfl,HA,HK1,HO_9,Ja,HB⟩:=hrel
  cases gk with
  | zero=>exact absurd HA.out (by simp [QG.l0])
  | succ k1 =>
   have H:=HA.out
   clear HA
   simp only [QG.l0] at H
   by_cases c6:YU<(l1.length:Int)
   ·
    rw [if_pos c6] at H;have c6b0:decide (YU<(l1.length:Int))=true:=decide_eq_true c6;clear c6
    by_cases c7:0≤YU
    ·
     rw [if_pos c7] at H;have c7b0:decide (0≤YU)=true:=decide_eq_true c7;clear c7
     by_cases c8:YU<(l1.length:Int)
     ·
      rw [if_pos c8] at H;have c8b0:decide (YU<(l1.length:Int))=true:=decide_eq_true c8;clear c8
      by_cases c9:YU<(l2.length:Int)
      ·
       rw [if_pos c9] at H;have c9b0:decide (YU<(l2.length:Int))=true:=decide_eq_true c9;clear c9
       by_cases c10:0≤a3
       ·
        rw [if_pos c10] at H;have c10b0:decide (0≤a3)=true:=decide_eq_true c10;clear c10
        by_cases c11:a3<((Yh l2 YU).length:Int)
        ·
         rw [if_pos c11] at H;have c11b0:decide (a3<((Yh l2 YU).length:Int))=true:=decide_eq_true c11;clear c11;replace H:=Option.bind_eq_some_iff.mp H;obtain ⟨Xs,qcc,H⟩:=H;replace H:(if Uy.length<17592186044416 then (QG.l0 k1 l2 a3 (Uy++[wrap64 ((rd l1 YU)*Xs)]) l1 (l1.length:Int) (wrap64 (YU+1))) else (none))=some r:=H;have A12:=Q0.mk qcc;clear qcc
         by_cases c13:Uy.length<17592186044416
         ·
          rw [if_pos c13] at H;have qkw:=Q0.mk c13;clear c13;obtain ⟨qlX,Wp⟩:∃ y_:List Int,y_=(Uy++[wrap64 ((rd l1 YU)*Xs)]):=⟨_,rfl⟩
          replace H:(QG.l0 k1 l2 a3 qlX l1 (l1.length:Int) (wrap64 (YU+1)))=some r:=by first|(rw [Wp];with_reducible exact H)|(have H2_:=(Option.bind_some _ _).symm.trans H;rw [Wp];with_reducible exact H2_)|(have H2_:=(Option.bind_some _ _).symm.trans H;with_reducible exact H2_)|with_reducible exact H|(rw [Wp];exact H)|exact H
          have qky:=Q0.mk Wp;clear Wp;have H':=Q0.mk H;clear H;have qgX:0≤(YU:Int):=of_decide_eq_true (by first|(with_reducible assumption)|assumption);have qha:YU<(l1.length:Int):=of_decide_eq_true (by first|(with_reducible assumption)|assumption);obtain ⟨qrq,qpB,UU⟩:=Kd.at_int HR1.out YU qgX qha;cases qpB;replace UU:=(HB.out.cell (World.block_lt_of_cell? w _ UU)).trans UU;replace qgX:=eq_true qgX;replace qha:=eq_true qha
          try go_wp2
          have n0_:=Q0.mk (Kd.R_drew HO_9.out);have n1_:=Q0.mk (Q6 Ja.out);have n2_:=Q0.mk (Q4 HB.out);clear HO_9 Ja HB;have HO_9:=n0_;have Ja:=n1_;have HB:=n2_;clear n0_ n1_ n2_;have qgY:0≤(YU:Int):=of_decide_eq_true (by first|(with_reducible assumption)|assumption);have qhb:YU<(l2.length:Int):=of_decide_eq_true (by first|(with_reducible assumption)|assumption);obtain ⟨qkD,qph,qgA,qpC,KC,qal,qag⟩:=XE HR2.out YU qgY qhb;have Jm:=KC;cases qpC;replace KC:=(HB.out.cell (World.block_lt_of_cell? w _ KC)).trans KC;have XA:=Q0.mk qag;have ql5:=Q0.mk qal;clear qag qal;replace qgY:=eq_true qgY;replace qhb:=eq_true qhb;have qgZ:0≤(a3:Int):=of_decide_eq_true (by first|(with_reducible assumption)|assumption);have qhc:a3<((Yh l2 YU).length:Int):=of_decide_eq_true (by first|(with_reducible assumption)|assumption);obtain ⟨XD,qpD,KD,KE⟩:=JM XA.out a3 qgZ qhc;have Jo:=KE;have Jn:=KD;cases qpD;replace KD:=(HB.out.cell (World.block_lt_of_cell? w _ KD)).trans KD;replace KE:=(HB.out.cell (World.block_lt_of_cell? w _ KE)).trans KE;replace qgZ:=eq_true qgZ;replace qhc:=eq_true qhc;refine Kr (n:=16) (S:=fun w'=>w'.cell? ⟨UM,0,none⟩=some (.func (.func 68) #[] #[])∧w'.cell? (qkD.add (YU).toNat)=some (.slice (some XD) (Yh l2 YU).length qgA)∧w'.cell? (XD.add ((a3).toNat*2))=some (.int .i64 ((Qs (Yh l2 YU) a3).f0))∧w'.cell? ⟨(XD.add ((a3).toNat*2)).block,(XD.add ((a3).toNat*2)).off+1,none⟩=some (.int .i64 ((Qs (Yh l2 YU) a3).f1))) (ds:=[]) #[false,false,false,false,false,false,false,false,false,false,false,false,false,false,false,false] (by kernel_rfl) rfl rfl ⟨(Q8 Ja.out 0).trans rfl,((HB.out.cell (World.block_lt_of_cell? w _ Jm)).trans Jm),((HB.out.cell (World.block_lt_of_cell? w _ Jn)).trans Jn),((HB.out.cell (World.block_lt_of_cell? w _ Jo)).trans Jo)⟩ (fun hHeld => ?_);refine JC QG.tab5 QG.bits5 (fun HT_ HW_ => ?_)
          generalize wr.drew=w14 at HO_9 Ja HB XA KC KD KE hHeld ⊢
          refine Qx (i:=0) (N:=some 19) (v:=?_) (a':=?_) #[true,false,false,false,false,false,false,false,false,false,false,false,false,false,false,false] rfl rfl (Qr HT_.out (by kernel_rfl)) (fun _ _ _ h=>h) (Or.inl ⟨by rfl,?_⟩) ?_ ?_
          rotate_left
          ·
           intro w'
           go_simp
           with_reducible rfl
          rotate_left
          ·
           simp only [Act.put,List.setIfInBounds_toArray,List.set_cons_zero,List.set_cons_succ,Qp,Qq]
           rfl
          refine Qx (i:=1) (N:=some 20) (v:=?_) (a':=?_) #[true,true,false,false,false,false,false,false,false,false,false,false,false,false,false,false] rfl rfl (Qr HT_.out (by kernel_rfl)) (fun _ _ _ h=>h) (Or.inl ⟨by rfl,?_⟩) ?_ ?_
          rotate_left
          ·
           intro w'
           go_simp
           with_reducible rfl
          rotate_left
          ·
           simp only [Act.put,List.setIfInBounds_toArray,List.set_cons_zero,List.set_cons_succ,Qp,Qq]
           rfl
          refine Qx (i:=2) (N:=some 21) (v:=?_) (a':=?_) #[true,true,true,false,false,false,false,false,false,false,false,false,false,false,false,false] rfl rfl (Qr HT_.out (by kernel_rfl)) (fun _ _ _ h=>h) (Or.inl ⟨by rfl,?_⟩) ?_ ?_
          rotate_left
          ·
           intro w'
           go_simp
           with_reducible rfl
          rotate_left
          ·
           simp only [Act.put,List.setIfInBounds_toArray,List.set_cons_zero,List.set_cons_succ,Qp,Qq]
           rfl
          refine Qx (i:=4) (N:=some 23) (v:=?_) (a':=?_) #[true,true,true,false,true,false,false,false,false,false,false,false,false,false,false,false] rfl rfl (Qr HT_.out (by kernel_rfl)) (fun _ _ _ h=>h) (Or.inl ⟨by rfl,?_⟩) ?_ ?_
          rotate_left
          ·
           intro w'
           go_simp
           with_reducible rfl
          rotate_left
          ·
           simp only [Act.put,List.setIfInBounds_toArray,List.set_cons_zero,List.set_cons_succ,Qp,Qq]
           rfl
          refine Qx (i:=5) (N:=some 24) (v:=?_) (a':=?_) #[true,true,true,false,true,true,false,false,false,false,false,false,false,false,false,false] rfl rfl (Qr HT_.out (by kernel_rfl)) (fun _ _ _ h=>h) (Or.inl ⟨by rfl,?_⟩) ?_ ?_
          rotate_left
          ·
           intro w'
           go_simp
           with_reducible rfl
          rotate_left
          ·
           simp only [Act.put,List.setIfInBounds_toArray,List.set_cons_zero,List.set_cons_succ,Qp,Qq]
           rfl
          refine Qx (i:=6) (N:=some 25) (v:=?_) (a':=?_) #[true,true,true,false,true,true,true,false,false,false,false,false,false,false,false,false] rfl rfl (Qr HT_.out (by kernel_rfl)) (fun _ _ _ h=>h) (Or.inl ⟨by rfl,?_⟩) ?_ ?_
          rotate_left
          ·
           intro w'
           go_simp
           with_reducible rfl
          rotate_left
          ·
           simp only [Act.put,List.setIfInBounds_toArray,List.set_cons_zero,List.set_cons_succ,Qp,Qq]
           rfl
          refine Qx (i:=8) (N:=some 27) (v:=?_) (a':=?_) #[true,true,true,false,true,true,true,false,true,false,false,false,false,false,false,false] rfl rfl (Qr HT_.out (by kernel_rfl)) (fun _ _ _ h=>h) (Or.inl ⟨by rfl,?_⟩) ?_ ?_
          rotate_left
          ·
           intro w'
           go_simp
           with_reducible rfl
          rotate_left
          ·
           simp only [Act.put,List.setIfInBounds_toArray,List.set_cons_zero,List.set_cons_succ,Qp,Qq]
           rfl
          refine JG (i:=3) (N:=some 22) (v:=?_) (a':=?_) #[true,true,true,true,true,true,true,false,true,false,false,false,false,false,false,false] rfl rfl (Z8 HT_.out HW_.out (by kernel_rfl)) (fun _ _ _ h=>h) (Or.inl ⟨by rfl,?_⟩) hHeld ?_ ?_
          rotate_left
          ·
           rintro w' ⟨s0,s1,s2,s3⟩
           go_simp
           with_reducible rfl
          rotate_left
          ·
           simp only [Act.put,List.setIfInBounds_toArray,List.set_cons_zero,List.set_cons_succ,Qp,Qq]
           rfl
          refine JG (i:=7) (N:=some 26) (v:=?_) (a':=?_) #[true,true,true,true,true,true,true,true,true,false,false,false,false,false,false,false] rfl rfl (Z8 HT_.out HW_.out (by kernel_rfl)) (fun _ _ _ h=>h) (Or.inl ⟨by rfl,?_⟩) hHeld ?_ ?_
          rotate_left
          ·
           rintro w' ⟨s0,s1,s2,s3⟩
           go_simp
           with_reducible rfl
          rotate_left
          ·
           simp only [Act.put,List.setIfInBounds_toArray,List.set_cons_zero,List.set_cons_succ,Qp,Qq]
           rfl
          refine Qx (i:=9) (N:=some 28) (v:=?_) (a':=?_) #[true,true,true,true,true,true,true,true,true,true,false,false,false,false,false,false] rfl rfl (Qr HT_.out (by kernel_rfl)) (fun _ _ _ h=>h) (Or.inl ⟨by rfl,?_⟩) ?_ ?_
          rotate_left
          ·
           intro w'
           go_simp
           with_reducible rfl
          rotate_left
          ·
           simp only [Act.put,List.setIfInBounds_toArray,List.set_cons_zero,List.set_cons_succ,Qp,Qq]
           rfl
          refine JG (i:=10) (N:=some 29) (v:=?_) (a':=?_) #[true,true,true,true,true,true,true,true,true,true,true,false,false,false,false,false] rfl rfl (Z8 HT_.out HW_.out (by kernel_rfl)) (fun _ _ _ h=>h) (Or.inl ⟨by rfl,?_⟩) hHeld ?_ ?_
          rotate_left
          ·
           rintro w' ⟨s0,s1,s2,s3⟩
           go_simp
           with_reducible rfl
          rotate_left
          ·
           simp only [Act.put,List.setIfInBounds_toArray,List.set_cons_zero,List.set_cons_succ,Qp,Qq]
           rfl
          refine one_ (i:=11) (N:=some 30) #[true,true,true,true,true,true,true,true,true,true,true,true,false,false,false,false] rfl rfl (JE HT_.out (by kernel_rfl)) (by decide) (fun K hK => ?_);refine qdz Try.func68 (by kernel_rfl) rfl #[.agg #[.int .i64 ((Qs (Yh l2 YU) a3).f0),.int .i64 ((Qs (Yh l2 YU) a3).f1)]] 22 (by rfl) rfl rfl rfl (by (try simp only [List.map_toArray,List.map_cons,List.map_nil]);first|done|rfl|(simp only [List.length_drop,List.length_take];rfl)) ?_
          with_reducible refine (JL.calls ((Qs (Yh l2 YU) a3).f0) ((Qs (Yh l2 YU) a3).f1) Xs _ A12.out).mono ?_
          rintro e w15 ⟨rfl,hb⟩;refine ⟨_,rfl,?_⟩;have n0_:=Q0.mk (Kd.R_below (by (with_reducible repeat (first|apply Kd.R_alloc|apply Kd.R_drewN|apply Kd.R_drew));exact HO_9.out) hb);have n1_:=Q0.mk (Qf (g:=UM) (o:=.cells #[.func (.func 68) #[] #[]] 104 (0,0)) (by (with_reducible repeat (first|refine Q5 ?_ _|refine Q6 ?_|refine Q3 ?_ _));exact Ja.out) hb);have n2_:=Q0.mk (Qi (by repeat (first|(with_reducible first|exact HB.out|apply Q2|apply Q1|apply Q4|refine Q7 ?_ UB.out)|exact HB.out)) hb);clear HO_9 Ja HB;have HO_9:=n0_;have Ja:=n1_;have HB:=n2_;clear n0_ n1_ n2_
          (try clear hb)
          (try clear hb2)
          (try clear hk)
          (try clear hi)
          refine hK.out _ _ ⟨(Q8 Ja.out 0).trans rfl,((HB.out.cell (World.block_lt_of_cell? w _ Jm)).trans Jm),((HB.out.cell (World.block_lt_of_cell? w _ Jn)).trans Jn),((HB.out.cell (World.block_lt_of_cell? w _ Jo)).trans Jo)⟩ (fun hHeld => ?_);clear hK K;refine Jr (a':=?_) ?_ ?_
          rotate_left
          ·
           show Act.put _ (some 30) _=_
           simp only [Act.put,List.setIfInBounds_toArray,List.set_cons_zero,List.set_cons_succ,Qp,Qq]
           rfl
          refine Qx (i:=12) (N:=some 31) (v:=?_) (a':=?_) #[true,true,true,true,true,true,true,true,true,true,true,true,true,false,false,false] rfl rfl (Qr HT_.out (by kernel_rfl)) (fun _ _ _ h=>h) (Or.inl ⟨by rfl,?_⟩) ?_ ?_
          rotate_left
          ·
           intro w'
           go_simp
           with_reducible rfl
          rotate_left
          ·
           simp only [Act.put,List.setIfInBounds_toArray,List.set_cons_zero,List.set_cons_succ,Qp,Qq]
           rfl
          refine one_ (i:=13) (N:=some 32) #[true,true,true,true,true,true,true,true,true,true,true,true,true,true,false,false] rfl rfl (JE HT_.out (by kernel_rfl)) (by decide) (fun K hK => ?_);refine qhA (w1:=?_) (v:=?_) (by rfl) rfl ?_ ?_
          rotate_left 2
          ·
           go_simp
           constructor
           ·
            rfl
           rfl
          refine hK.out _ _ ⟨(Q8 (Q3 Ja.out _) 0).trans rfl,(World.cell?_alloc_lt _ _ _ (World.block_lt_of_cell? _ _ (((HB.out.cell (World.block_lt_of_cell? w _ Jm)).trans Jm)))).trans (((HB.out.cell (World.block_lt_of_cell? w _ Jm)).trans Jm)),(World.cell?_alloc_lt _ _ _ (World.block_lt_of_cell? _ _ (((HB.out.cell (World.block_lt_of_cell? w _ Jn)).trans Jn)))).trans (((HB.out.cell (World.block_lt_of_cell? w _ Jn)).trans Jn)),(World.cell?_alloc_lt _ _ _ (World.block_lt_of_cell? _ _ (((HB.out.cell (World.block_lt_of_cell? w _ Jo)).trans Jo)))).trans (((HB.out.cell (World.block_lt_of_cell? w _ Jo)).trans Jo))⟩ (fun hHeld => ?_);clear hK K;refine Jr (a':=?_) ?_ ?_
          rotate_left
          ·
           show Act.put _ (some 32) _=_
           simp only [Act.put,List.setIfInBounds_toArray,List.set_cons_zero,List.set_cons_succ,Qp,Qq]
           rfl
          refine one_ (i:=14) (N:=some 33) #[true,true,true,true,true,true,true,true,true,true,true,true,true,true,true,false] rfl rfl (JE HT_.out (by kernel_rfl)) (by decide) (fun K hK => ?_);refine Kd.R_append_step (Kd.int .i64) (w0:=w) w.heap.size (by rfl) (.tmp 19) (.tmp 32) 37 3 (.int .i64 0) 8 rfl Try.underlying37 Xa rfl (by decide) (by omega) u9 Uy (wrap64 ((rd l1 YU)*Xs)) [.int .i64 (wrap64 ((rd l1 YU)*Xs))] (fun _=>True) (fun _=>False) rfl rfl ?aP (fun _ hk=>hk.elim) ?aF ?aO ?aB ?aS ?aL ?_
          (case aP=>exact rfl)
          (case aB=>exact (by repeat (first|(with_reducible first|exact HB.out|apply Q2|apply Q1|apply Q4|refine Q7 ?_ UB.out)|exact HB.out)))
          (case aF=>exact (fun _ _=>trivial))
          (case aO=>exact (by (with_reducible repeat (first|apply Kd.R_alloc|apply Kd.R_drewN|apply Kd.R_drew));exact HO_9.out))
          (case aS=>exact (Qe (by repeat (first|(with_reducible first|exact HB.out|apply Q2|apply Q1|apply Q4|refine Q7 ?_ UB.out)|exact HB.out))))
          (case aL=>have:=qkw.out;omega)
          intro v139 w16 ho hb hg hat;rw [← qky.out] at ho;have n0_:=Q0.mk (JP (g:=UM) (o:=.cells #[.func (.func 68) #[] #[]] 104 (0,0)) (by (with_reducible repeat (first|refine Q5 ?_ _|refine Q6 ?_|refine Q3 ?_ _));exact Ja.out) hg (Kd.R_ne HO_9.out Ja.out (by decide)));have n1_:=Q0.mk (hb);have n2_:=Q0.mk (ho);clear Ja HB HO_9;have Ja:=n0_;have HB:=n1_;have qkt:=n2_;clear n0_ n1_ n2_ ho hb hg hat;refine hK.out _ _ ⟨(Q8 Ja.out 0).trans rfl,((HB.out.cell (World.block_lt_of_cell? w _ Jm)).trans Jm),((HB.out.cell (World.block_lt_of_cell? w _ Jn)).trans Jn),((HB.out.cell (World.block_lt_of_cell? w _ Jo)).trans Jo)⟩ (fun hHeld => ?_);clear hK K;refine Jr (a':=?_) ?_ ?_
          rotate_left
          ·
           show Act.put _ (some 33) _=_
           simp only [Act.put,List.setIfInBounds_toArray,List.set_cons_zero,List.set_cons_succ,Qp,Qq]
           rfl
          refine Qx (i:=15) (N:=some 9) (v:=?_) (a':=?_) #[true,true,true,true,true,true,true,true,true,true,true,true,true,true,true,true] rfl rfl (Qr HT_.out (by kernel_rfl)) (fun _ _ _ h=>h) (Or.inl ⟨by rfl,?_⟩) ?_ ?_
          rotate_left
          ·
           intro w'
           go_simp
           with_reducible rfl
          rotate_left
          ·
           simp only [Act.put,List.setIfInBounds_toArray,List.set_cons_zero,List.set_cons_succ,Qp,Qq]
           rfl
          refine OC (Gi HT_.out (by kernel_rfl)) ?_
          try go_wp2
          go_roundg k1
          case measure=>have:=HK1.out;omega
          case rel=>exact ⟨(qlX),(wrap64 (YU+1)),(by first|rfl|(simp;done)|(simp [*];done)),H',⟨by have:=HK1.out;omega⟩,⟨by (with_reducible repeat (first|apply Kd.R_alloc|apply Kd.R_drewN|apply Kd.R_drew));exact qkt.out⟩,⟨by (with_reducible repeat (first|refine Q5 ?_ _|refine Q6 ?_|refine Q3 ?_ _));exact Ja.out⟩,⟨by repeat (first|(with_reducible first|exact HB.out|apply Q2|apply Q1|apply Q4|refine Q7 ?_ UB.out)|exact HB.out)⟩⟩
         rw [if_neg c13] at H
         exact absurd H (by simp)
        rw [if_neg c11] at H
        exact absurd H (by simp)
       rw [if_neg c10] at H
       exact absurd H (by simp)
      rw [if_neg c9] at H
      exact absurd H (by simp)
     rw [if_neg c8] at H
     exact absurd H (by simp)
    rw [if_neg c7] at H
    exact absurd H (by simp)
   rw [if_neg c6] at H
   have c6b0:decide (YU<(l1.length:Int))=false:=decide_eq_false c6
   clear c6
   replace H:=Option.bind_eq_some_iff.mp H
   obtain ⟨t141,qkf,H⟩:=H
   replace H:(some t141)=some r:=H
   have A17:=Q0.mk qkf
   clear qkf
   obtain rfl:=Option.some.inj H
   obtain ⟨qpj,qpA,qpO⟩:=Kd.R_slice HO_9.out
   subst qpO
   go_wp2_with (first|((with_reducible refine Qz (f:=97) rfl ?_);refine Yo (some 36) rfl rfl Try.func97 (by kernel_rfl) rfl #[.slice qpj Uy.length qpA] rfl (by (try simp only [List.map_toArray,List.map_cons,List.map_nil]);first|done|rfl|(simp only [List.length_drop,List.length_take];rfl)) ?_;(with_reducible refine (QS.calls k1 _ _ Uy t141 _ ?side1 ?side2 A17.out).mono ?_);(case side1=>repeat (first|exact (Kd.R_reads' HO_9.out).2.2|(with_reducible refine Kd.C_alloc ?_ _)|(with_reducible refine Kd.C_drewN ?_ _)|(with_reducible refine Kd.C_drew ?_)));(case side2=>exact (Kd.R_reads' HO_9.out).2.1);rintro e w' ⟨rfl,⟨nd,rfl⟩⟩;refine ⟨_,rfl,?_⟩))
   go_ret
   exact ⟨by first|rfl|(simp [Qv,Qw]<;>rfl)|(simp [*,Qv,Qw]<;>rfl),by repeat (first|(with_reducible first|exact HB.out|apply Q2|apply Q1|apply Q4|refine Q7 ?_ UB.out)|exact HB.out)⟩
end
section
attribute [local go_sem] YF YH YY YZ Yq Yr YG YI
def QB.l0:Nat→List (List (S25))→Int→List Int→List Int→Int→Int→Option (Int)
 | 0,_,_,_,_,_,_=>none
 | k+1,x2,x3,x9,x12,x13,x14=>if x14<x13 then (if 0≤x14 then (if x14<(x12.length:Int) then (if x14<(x2.length:Int) then (if 0≤x3 then (if x3<((Yh x2 x14).length:Int) then ((JA.f ((Qs (Yh x2 x14) x3).f0) ((Qs (Yh x2 x14) x3).f1)).bind fun Xs=>(if x9.length<17592186044416 then (QB.l0 k x2 x3 (x9++[wrap64 ((rd x12 x14)*Xs)]) x12 x13 (wrap64 (x14+1))) else (none))) else (none)) else (none)) else (none)) else (none)) else (none)) else ((QS.f k x9).bind fun t141=>(some t141))
def QB.f (k:Nat) (Jl:Int) (l1:List Int) (l2:List (List (S25))) (a3:Int):Option (Int):=QB.l0 k l2 a3 ([]:List Int) l1 (l1.length:Int) 0
theorem QB.mono_l:∀ k,(∀ y0 y1 y2 y3 y4 y5,LeO (QB.l0 k y0 y1 y2 y3 y4 y5) (QB.l0 (k+1) y0 y1 y2 y3 y4 y5))
 | 0=>fun _ _ _ _ _ _ r h=>by simp [QB.l0] at h
 | k+1=>by
  have ih0:=QB.mono_l k
  intro y0 y1 y2 y3 y4 y5
  unfold QB.l0
  repeat' first
  | (with_reducible exact ih0 _ _ _ _ _ _)
  | (with_reducible exact QS.mono _ _)
  | (with_reducible exact LeO.refl _)
  | (with_reducible exact LeO.none _)
  | (with_reducible refine LeO.ite ?_ ?_)
  | (with_reducible refine LeO.bind ?_ (fun _ => ?_))
  | exact ih0 _ _ _ _ _ _
  | exact QS.mono _ _
  | exact LeO.none _
  | refine LeO.ite ?_ ?_
  | refine LeO.bind ?_ (fun _ => ?_)
theorem QB.mono:∀ a0 a1 a2 a3 k,LeO (QB.f k a0 a1 a2 a3) (QB.f (k+1) a0 a1 a2 a3):=by
 intro a0 a1 a2 a3 k
 have ih0:=QB.mono_l k
 unfold QB.f
 repeat' first
   | (with_reducible exact ih0 _ _ _ _ _ _)
   | (with_reducible exact QS.mono _ _)
   | (with_reducible exact LeO.refl _)
   | (with_reducible exact LeO.none _)
   | (with_reducible refine LeO.ite ?_ ?_)
   | (with_reducible refine LeO.bind ?_ (fun _ => ?_))
   | exact ih0 _ _ _ _ _ _
   | exact QS.mono _ _
   | exact LeO.none _
   | refine LeO.ite ?_ ?_
   | refine LeO.bind ?_ (fun _ => ?_)
def QB.T5:Bool × List (List Nat × List Nat):=(true,[([],[]),([],[]),([],[]),([2],[2]),([],[]),([],[]),([4,5],[4,5]),([6],[6]),([],[]),([7,8],[7,8]),([9],[9]),([3,10],[3,10]),([1,11],[1,11]),([12],[12]),([0,13,11],[0,13]),([14,14,0,1,2,3,4,5,6,7,8,9,10,11,12,13,14],[0,14])])
def QB.B5:List Nat:=[0,0,0,4,0,0,48,112,0,496,1008,2044,4094,8190,16383,32767]
theorem QB.tab5:rtab .any (qcy Try.f71 5)=QB.T5:=by kernel_rfl
theorem QB.bits5:KL QB.T5.2 QB.B5=true:=by kernel_rfl
set_option maxHeartbeats 8000000 in
set_option maxRecDepth 100000 in
theorem QB.calls (k:Nat) (Jl:Int) (A1:Option Addr) (c1:Nat) (l1:List Int) (A2:Option Addr) (c2:Nat) (l2:List (List (S25))) (a3:Int) (r:Int) (w:World) (hr1:Kd.C (Kd.int .i64) w A1 l1.length l1) (hc1:l1.length≤c1) (hr2:Kd.C (Kd.slice 25 k25) w A2 l2.length l2) (hc2:l2.length≤c2) (h:QB.f k Jl l1 l2 a3=some r) :
  Calls Try.prog 71 #[.agg #[.func (.func 69) #[] #[]],.slice A1 l1.length c1,.slice A2 l2.length c2,.int .i64 a3] w fun e w'=>e = .returned (.int .i64 r)∧Below w.heap.size w w':=by
 have qtJ:=Try.underlying104
 have X1:=Try.underlying25
 have HR1:=Q0.mk hr1
 have HC1:=Q0.mk hc1
 clear hr1 hc1
 have HR2:=Q0.mk hr2
 have HC2:=Q0.mk hc2
 clear hr2 hc2
 have HB:=Q0.mk (Below.refl w.heap.size w)
 have H:(QB.l0 k l2 a3 ([]:List Int) l1 (l1.length:Int) 0)=some r:=h
 clear h
 have H':=Q0.mk H
 clear H
 go_enter Try.func71,Try.ntmps71
 go_wp2_with (first|((with_reducible refine QW (N:=4) rfl ?_);refine Ym ?hg (N:=4) ?hd (cs:=#[.func (.func 69) #[] #[]]) (t:=104) ?hr ?_;(case hd=>rfl);(case hg=>rfl);(case hr=>first|(go_simp;done)|(go_simp;rfl));intro UM hg w5 hbox hb;have n0_:=Q0.mk (Qi (by repeat (first|(with_reducible first|exact HB.out|apply Q2|apply Q1|apply Q4)|exact HB.out)) hb);have n1_:=Q0.mk (hbox);have n2_:=Q0.mk ((by rw [hg];exact (Qe (by repeat (first|(with_reducible first|exact HB.out|apply Q2|apply Q1|apply Q4)|exact HB.out))):w.heap.size≤UM));have n3_:=n2_;clear HB;have HB:=n0_;have Ja:=n1_;have qq0:=n2_;have UB:=n3_;clear n0_ n1_ n2_ n3_ hb hbox hg))
 go_loopg [9,14] k (fun kq v9 v14 w' => ∃ (Uy:List Int) (YU:Int),v14 = .int .i64 YU∧Q0 (QB.l0 kq l2 a3 Uy l1 (l1.length:Int) YU=some r)∧Q0 (kq≤k)∧Q0 (Kd.R (Kd.int .i64) 3 w' w.heap.size (fun _=>True) v9 Uy)∧Q0 (w'.heap[UM]? = some (.cells #[.func (.func 69) #[] #[]] 104 (0,0)))∧Q0 (Below w.heap.size w w'))
 case atStart=>exact ⟨(([]:List Int)),(0),(by first|rfl|(simp;done)|(simp [*];done)),H',⟨Nat.le_refl _⟩,⟨by first|exact Kd.R_nil _ _ _ _ _|exact Kd.N_nil _ _ _ _ _|exact Kd.V_nil _ _ _ _ _|exact Kd.Q_nil _ _ _ _ _|exact Kd.S_nil _ _ _ _ _⟩,⟨by (with_reducible repeat (first|refine Q5 ?_ _|refine Q6 ?_|refine Q3 ?_ _));exact Ja.out⟩,⟨by repeat (first|(with_reducible first|exact HB.out|apply Q2|apply Q1|apply Q4|refine Q7 ?_ UB.out)|exact HB.out)⟩⟩
 case round =>
  clear H'
  try clear c1
  try clear c2
  try clear p2
  obtain ⟨Uy,YU,rfl,HA,HK1,HO_9,Ja,HB⟩:=hrel
  cases gk with
  | zero=>exact absurd HA.out (by simp [QB.l0])
  | succ k1 =>
   have H:=HA.out
   clear HA
   simp only [QB.l0] at H
   by_cases c6:YU<(l1.length:Int)
   ·
    rw [if_pos c6] at H;have c6b0:decide (YU<(l1.length:Int))=true:=decide_eq_true c6;clear c6
    by_cases c7:0≤YU
    ·
     rw [if_pos c7] at H;have c7b0:decide (0≤YU)=true:=decide_eq_true c7;clear c7
     by_cases c8:YU<(l1.length:Int)
     ·
      rw [if_pos c8] at H;have c8b0:decide (YU<(l1.length:Int))=true:=decide_eq_true c8;clear c8
      by_cases c9:YU<(l2.length:Int)
      ·
       rw [if_pos c9] at H;have c9b0:decide (YU<(l2.length:Int))=true:=decide_eq_true c9;clear c9
       by_cases c10:0≤a3
       ·
        rw [if_pos c10] at H;have c10b0:decide (0≤a3)=true:=decide_eq_true c10;clear c10
        by_cases c11:a3<((Yh l2 YU).length:Int)
        ·
         rw [if_pos c11] at H;have c11b0:decide (a3<((Yh l2 YU).length:Int))=true:=decide_eq_true c11;clear c11;replace H:=Option.bind_eq_some_iff.mp H;obtain ⟨Xs,qcc,H⟩:=H;replace H:(if Uy.length<17592186044416 then (QB.l0 k1 l2 a3 (Uy++[wrap64 ((rd l1 YU)*Xs)]) l1 (l1.length:Int) (wrap64 (YU+1))) else (none))=some r:=H;have A12:=Q0.mk qcc;clear qcc
         by_cases c13:Uy.length<17592186044416
         ·
          rw [if_pos c13] at H;have qkw:=Q0.mk c13;clear c13;obtain ⟨qlX,Wp⟩:∃ y_:List Int,y_=(Uy++[wrap64 ((rd l1 YU)*Xs)]):=⟨_,rfl⟩
          replace H:(QB.l0 k1 l2 a3 qlX l1 (l1.length:Int) (wrap64 (YU+1)))=some r:=by first|(rw [Wp];with_reducible exact H)|(have H2_:=(Option.bind_some _ _).symm.trans H;rw [Wp];with_reducible exact H2_)|(have H2_:=(Option.bind_some _ _).symm.trans H;with_reducible exact H2_)|with_reducible exact H|(rw [Wp];exact H)|exact H
          have qky:=Q0.mk Wp;clear Wp;have H':=Q0.mk H;clear H;have qgX:0≤(YU:Int):=of_decide_eq_true (by first|(with_reducible assumption)|assumption);have qha:YU<(l1.length:Int):=of_decide_eq_true (by first|(with_reducible assumption)|assumption);obtain ⟨qrq,qpB,UU⟩:=Kd.at_int HR1.out YU qgX qha;cases qpB;replace UU:=(HB.out.cell (World.block_lt_of_cell? w _ UU)).trans UU;replace qgX:=eq_true qgX;replace qha:=eq_true qha
          try go_wp2
          have n0_:=Q0.mk (Kd.R_drew HO_9.out);have n1_:=Q0.mk (Q6 Ja.out);have n2_:=Q0.mk (Q4 HB.out);clear HO_9 Ja HB;have HO_9:=n0_;have Ja:=n1_;have HB:=n2_;clear n0_ n1_ n2_;have qgY:0≤(YU:Int):=of_decide_eq_true (by first|(with_reducible assumption)|assumption);have qhb:YU<(l2.length:Int):=of_decide_eq_true (by first|(with_reducible assumption)|assumption);obtain ⟨qkD,qph,qgA,qpC,KC,qal,qag⟩:=XE HR2.out YU qgY qhb;have Jm:=KC;cases qpC;replace KC:=(HB.out.cell (World.block_lt_of_cell? w _ KC)).trans KC;have XA:=Q0.mk qag;have ql5:=Q0.mk qal;clear qag qal;replace qgY:=eq_true qgY;replace qhb:=eq_true qhb;have qgZ:0≤(a3:Int):=of_decide_eq_true (by first|(with_reducible assumption)|assumption);have qhc:a3<((Yh l2 YU).length:Int):=of_decide_eq_true (by first|(with_reducible assumption)|assumption);obtain ⟨XD,qpD,KD,KE⟩:=JM XA.out a3 qgZ qhc;have Jo:=KE;have Jn:=KD;cases qpD;replace KD:=(HB.out.cell (World.block_lt_of_cell? w _ KD)).trans KD;replace KE:=(HB.out.cell (World.block_lt_of_cell? w _ KE)).trans KE;replace qgZ:=eq_true qgZ;replace qhc:=eq_true qhc;refine Kr (n:=16) (S:=fun w'=>w'.cell? ⟨UM,0,none⟩=some (.func (.func 69) #[] #[])∧w'.cell? (qkD.add (YU).toNat)=some (.slice (some XD) (Yh l2 YU).length qgA)∧w'.cell? (XD.add ((a3).toNat*2))=some (.int .i64 ((Qs (Yh l2 YU) a3).f0))∧w'.cell? ⟨(XD.add ((a3).toNat*2)).block,(XD.add ((a3).toNat*2)).off+1,none⟩=some (.int .i64 ((Qs (Yh l2 YU) a3).f1))) (ds:=[]) #[false,false,false,false,false,false,false,false,false,false,false,false,false,false,false,false] (by kernel_rfl) rfl rfl ⟨(Q8 Ja.out 0).trans rfl,((HB.out.cell (World.block_lt_of_cell? w _ Jm)).trans Jm),((HB.out.cell (World.block_lt_of_cell? w _ Jn)).trans Jn),((HB.out.cell (World.block_lt_of_cell? w _ Jo)).trans Jo)⟩ (fun hHeld => ?_);refine JC QB.tab5 QB.bits5 (fun HT_ HW_ => ?_)
          generalize wr.drew=w14 at HO_9 Ja HB XA KC KD KE hHeld ⊢
          refine Qx (i:=0) (N:=some 19) (v:=?_) (a':=?_) #[true,false,false,false,false,false,false,false,false,false,false,false,false,false,false,false] rfl rfl (Qr HT_.out (by kernel_rfl)) (fun _ _ _ h=>h) (Or.inl ⟨by rfl,?_⟩) ?_ ?_
          rotate_left
          ·
           intro w'
           go_simp
           with_reducible rfl
          rotate_left
          ·
           simp only [Act.put,List.setIfInBounds_toArray,List.set_cons_zero,List.set_cons_succ,Qp,Qq]
           rfl
          refine Qx (i:=1) (N:=some 20) (v:=?_) (a':=?_) #[true,true,false,false,false,false,false,false,false,false,false,false,false,false,false,false] rfl rfl (Qr HT_.out (by kernel_rfl)) (fun _ _ _ h=>h) (Or.inl ⟨by rfl,?_⟩) ?_ ?_
          rotate_left
          ·
           intro w'
           go_simp
           with_reducible rfl
          rotate_left
          ·
           simp only [Act.put,List.setIfInBounds_toArray,List.set_cons_zero,List.set_cons_succ,Qp,Qq]
           rfl
          refine Qx (i:=2) (N:=some 21) (v:=?_) (a':=?_) #[true,true,true,false,false,false,false,false,false,false,false,false,false,false,false,false] rfl rfl (Qr HT_.out (by kernel_rfl)) (fun _ _ _ h=>h) (Or.inl ⟨by rfl,?_⟩) ?_ ?_
          rotate_left
          ·
           intro w'
           go_simp
           with_reducible rfl
          rotate_left
          ·
           simp only [Act.put,List.setIfInBounds_toArray,List.set_cons_zero,List.set_cons_succ,Qp,Qq]
           rfl
          refine Qx (i:=4) (N:=some 23) (v:=?_) (a':=?_) #[true,true,true,false,true,false,false,false,false,false,false,false,false,false,false,false] rfl rfl (Qr HT_.out (by kernel_rfl)) (fun _ _ _ h=>h) (Or.inl ⟨by rfl,?_⟩) ?_ ?_
          rotate_left
          ·
           intro w'
           go_simp
           with_reducible rfl
          rotate_left
          ·
           simp only [Act.put,List.setIfInBounds_toArray,List.set_cons_zero,List.set_cons_succ,Qp,Qq]
           rfl
          refine Qx (i:=5) (N:=some 24) (v:=?_) (a':=?_) #[true,true,true,false,true,true,false,false,false,false,false,false,false,false,false,false] rfl rfl (Qr HT_.out (by kernel_rfl)) (fun _ _ _ h=>h) (Or.inl ⟨by rfl,?_⟩) ?_ ?_
          rotate_left
          ·
           intro w'
           go_simp
           with_reducible rfl
          rotate_left
          ·
           simp only [Act.put,List.setIfInBounds_toArray,List.set_cons_zero,List.set_cons_succ,Qp,Qq]
           rfl
          refine Qx (i:=6) (N:=some 25) (v:=?_) (a':=?_) #[true,true,true,false,true,true,true,false,false,false,false,false,false,false,false,false] rfl rfl (Qr HT_.out (by kernel_rfl)) (fun _ _ _ h=>h) (Or.inl ⟨by rfl,?_⟩) ?_ ?_
          rotate_left
          ·
           intro w'
           go_simp
           with_reducible rfl
          rotate_left
          ·
           simp only [Act.put,List.setIfInBounds_toArray,List.set_cons_zero,List.set_cons_succ,Qp,Qq]
           rfl
          refine Qx (i:=8) (N:=some 27) (v:=?_) (a':=?_) #[true,true,true,false,true,true,true,false,true,false,false,false,false,false,false,false] rfl rfl (Qr HT_.out (by kernel_rfl)) (fun _ _ _ h=>h) (Or.inl ⟨by rfl,?_⟩) ?_ ?_
          rotate_left
          ·
           intro w'
           go_simp
           with_reducible rfl
          rotate_left
          ·
           simp only [Act.put,List.setIfInBounds_toArray,List.set_cons_zero,List.set_cons_succ,Qp,Qq]
           rfl
          refine JG (i:=3) (N:=some 22) (v:=?_) (a':=?_) #[true,true,true,true,true,true,true,false,true,false,false,false,false,false,false,false] rfl rfl (Z8 HT_.out HW_.out (by kernel_rfl)) (fun _ _ _ h=>h) (Or.inl ⟨by rfl,?_⟩) hHeld ?_ ?_
          rotate_left
          ·
           rintro w' ⟨s0,s1,s2,s3⟩
           go_simp
           with_reducible rfl
          rotate_left
          ·
           simp only [Act.put,List.setIfInBounds_toArray,List.set_cons_zero,List.set_cons_succ,Qp,Qq]
           rfl
          refine JG (i:=7) (N:=some 26) (v:=?_) (a':=?_) #[true,true,true,true,true,true,true,true,true,false,false,false,false,false,false,false] rfl rfl (Z8 HT_.out HW_.out (by kernel_rfl)) (fun _ _ _ h=>h) (Or.inl ⟨by rfl,?_⟩) hHeld ?_ ?_
          rotate_left
          ·
           rintro w' ⟨s0,s1,s2,s3⟩
           go_simp
           with_reducible rfl
          rotate_left
          ·
           simp only [Act.put,List.setIfInBounds_toArray,List.set_cons_zero,List.set_cons_succ,Qp,Qq]
           rfl
          refine Qx (i:=9) (N:=some 28) (v:=?_) (a':=?_) #[true,true,true,true,true,true,true,true,true,true,false,false,false,false,false,false] rfl rfl (Qr HT_.out (by kernel_rfl)) (fun _ _ _ h=>h) (Or.inl ⟨by rfl,?_⟩) ?_ ?_
          rotate_left
          ·
           intro w'
           go_simp
           with_reducible rfl
          rotate_left
          ·
           simp only [Act.put,List.setIfInBounds_toArray,List.set_cons_zero,List.set_cons_succ,Qp,Qq]
           rfl
          refine JG (i:=10) (N:=some 29) (v:=?_) (a':=?_) #[true,true,true,true,true,true,true,true,true,true,true,false,false,false,false,false] rfl rfl (Z8 HT_.out HW_.out (by kernel_rfl)) (fun _ _ _ h=>h) (Or.inl ⟨by rfl,?_⟩) hHeld ?_ ?_
          rotate_left
          ·
           rintro w' ⟨s0,s1,s2,s3⟩
           go_simp
           with_reducible rfl
          rotate_left
          ·
           simp only [Act.put,List.setIfInBounds_toArray,List.set_cons_zero,List.set_cons_succ,Qp,Qq]
           rfl
          refine one_ (i:=11) (N:=some 30) #[true,true,true,true,true,true,true,true,true,true,true,true,false,false,false,false] rfl rfl (JE HT_.out (by kernel_rfl)) (by decide) (fun K hK => ?_);refine qdz Try.func69 (by kernel_rfl) rfl #[.agg #[.int .i64 ((Qs (Yh l2 YU) a3).f0),.int .i64 ((Qs (Yh l2 YU) a3).f1)]] 22 (by rfl) rfl rfl rfl (by (try simp only [List.map_toArray,List.map_cons,List.map_nil]);first|done|rfl|(simp only [List.length_drop,List.length_take];rfl)) ?_
          with_reducible refine (JA.calls ((Qs (Yh l2 YU) a3).f0) ((Qs (Yh l2 YU) a3).f1) Xs _ A12.out).mono ?_
          rintro e w15 ⟨rfl,hb⟩;refine ⟨_,rfl,?_⟩;have n0_:=Q0.mk (Kd.R_below (by (with_reducible repeat (first|apply Kd.R_alloc|apply Kd.R_drewN|apply Kd.R_drew));exact HO_9.out) hb);have n1_:=Q0.mk (Qf (g:=UM) (o:=.cells #[.func (.func 69) #[] #[]] 104 (0,0)) (by (with_reducible repeat (first|refine Q5 ?_ _|refine Q6 ?_|refine Q3 ?_ _));exact Ja.out) hb);have n2_:=Q0.mk (Qi (by repeat (first|(with_reducible first|exact HB.out|apply Q2|apply Q1|apply Q4|refine Q7 ?_ UB.out)|exact HB.out)) hb);clear HO_9 Ja HB;have HO_9:=n0_;have Ja:=n1_;have HB:=n2_;clear n0_ n1_ n2_
          (try clear hb)
          (try clear hb2)
          (try clear hk)
          (try clear hi)
          refine hK.out _ _ ⟨(Q8 Ja.out 0).trans rfl,((HB.out.cell (World.block_lt_of_cell? w _ Jm)).trans Jm),((HB.out.cell (World.block_lt_of_cell? w _ Jn)).trans Jn),((HB.out.cell (World.block_lt_of_cell? w _ Jo)).trans Jo)⟩ (fun hHeld => ?_);clear hK K;refine Jr (a':=?_) ?_ ?_
          rotate_left
          ·
           show Act.put _ (some 30) _=_
           simp only [Act.put,List.setIfInBounds_toArray,List.set_cons_zero,List.set_cons_succ,Qp,Qq]
           rfl
          refine Qx (i:=12) (N:=some 31) (v:=?_) (a':=?_) #[true,true,true,true,true,true,true,true,true,true,true,true,true,false,false,false] rfl rfl (Qr HT_.out (by kernel_rfl)) (fun _ _ _ h=>h) (Or.inl ⟨by rfl,?_⟩) ?_ ?_
          rotate_left
          ·
           intro w'
           go_simp
           with_reducible rfl
          rotate_left
          ·
           simp only [Act.put,List.setIfInBounds_toArray,List.set_cons_zero,List.set_cons_succ,Qp,Qq]
           rfl
          refine one_ (i:=13) (N:=some 32) #[true,true,true,true,true,true,true,true,true,true,true,true,true,true,false,false] rfl rfl (JE HT_.out (by kernel_rfl)) (by decide) (fun K hK => ?_);refine qhA (w1:=?_) (v:=?_) (by rfl) rfl ?_ ?_
          rotate_left 2
          ·
           go_simp
           constructor
           ·
            rfl
           rfl
          refine hK.out _ _ ⟨(Q8 (Q3 Ja.out _) 0).trans rfl,(World.cell?_alloc_lt _ _ _ (World.block_lt_of_cell? _ _ (((HB.out.cell (World.block_lt_of_cell? w _ Jm)).trans Jm)))).trans (((HB.out.cell (World.block_lt_of_cell? w _ Jm)).trans Jm)),(World.cell?_alloc_lt _ _ _ (World.block_lt_of_cell? _ _ (((HB.out.cell (World.block_lt_of_cell? w _ Jn)).trans Jn)))).trans (((HB.out.cell (World.block_lt_of_cell? w _ Jn)).trans Jn)),(World.cell?_alloc_lt _ _ _ (World.block_lt_of_cell? _ _ (((HB.out.cell (World.block_lt_of_cell? w _ Jo)).trans Jo)))).trans (((HB.out.cell (World.block_lt_of_cell? w _ Jo)).trans Jo))⟩ (fun hHeld => ?_);clear hK K;refine Jr (a':=?_) ?_ ?_
          rotate_left
          ·
           show Act.put _ (some 32) _=_
           simp only [Act.put,List.setIfInBounds_toArray,List.set_cons_zero,List.set_cons_succ,Qp,Qq]
           rfl
          refine one_ (i:=14) (N:=some 33) #[true,true,true,true,true,true,true,true,true,true,true,true,true,true,true,false] rfl rfl (JE HT_.out (by kernel_rfl)) (by decide) (fun K hK => ?_);refine Kd.R_append_step (Kd.int .i64) (w0:=w) w.heap.size (by rfl) (.tmp 19) (.tmp 32) 37 3 (.int .i64 0) 8 rfl Try.underlying37 Xa rfl (by decide) (by omega) u9 Uy (wrap64 ((rd l1 YU)*Xs)) [.int .i64 (wrap64 ((rd l1 YU)*Xs))] (fun _=>True) (fun _=>False) rfl rfl ?aP (fun _ hk=>hk.elim) ?aF ?aO ?aB ?aS ?aL ?_
          (case aP=>exact rfl)
          (case aB=>exact (by repeat (first|(with_reducible first|exact HB.out|apply Q2|apply Q1|apply Q4|refine Q7 ?_ UB.out)|exact HB.out)))
          (case aF=>exact (fun _ _=>trivial))
          (case aO=>exact (by (with_reducible repeat (first|apply Kd.R_alloc|apply Kd.R_drewN|apply Kd.R_drew));exact HO_9.out))
          (case aS=>exact (Qe (by repeat (first|(with_reducible first|exact HB.out|apply Q2|apply Q1|apply Q4|refine Q7 ?_ UB.out)|exact HB.out))))
          (case aL=>have:=qkw.out;omega)
          intro v139 w16 ho hb hg hat;rw [← qky.out] at ho;have n0_:=Q0.mk (JP (g:=UM) (o:=.cells #[.func (.func 69) #[] #[]] 104 (0,0)) (by (with_reducible repeat (first|refine Q5 ?_ _|refine Q6 ?_|refine Q3 ?_ _));exact Ja.out) hg (Kd.R_ne HO_9.out Ja.out (by decide)));have n1_:=Q0.mk (hb);have n2_:=Q0.mk (ho);clear Ja HB HO_9;have Ja:=n0_;have HB:=n1_;have qkt:=n2_;clear n0_ n1_ n2_ ho hb hg hat;refine hK.out _ _ ⟨(Q8 Ja.out 0).trans rfl,((HB.out.cell (World.block_lt_of_cell? w _ Jm)).trans Jm),((HB.out.cell (World.block_lt_of_cell? w _ Jn)).trans Jn),((HB.out.cell (World.block_lt_of_cell? w _ Jo)).trans Jo)⟩ (fun hHeld => ?_);clear hK K;refine Jr (a':=?_) ?_ ?_
          rotate_left
          ·
           show Act.put _ (some 33) _=_
           simp only [Act.put,List.setIfInBounds_toArray,List.set_cons_zero,List.set_cons_succ,Qp,Qq]
           rfl
          refine Qx (i:=15) (N:=some 9) (v:=?_) (a':=?_) #[true,true,true,true,true,true,true,true,true,true,true,true,true,true,true,true] rfl rfl (Qr HT_.out (by kernel_rfl)) (fun _ _ _ h=>h) (Or.inl ⟨by rfl,?_⟩) ?_ ?_
          rotate_left
          ·
           intro w'
           go_simp
           with_reducible rfl
          rotate_left
          ·
           simp only [Act.put,List.setIfInBounds_toArray,List.set_cons_zero,List.set_cons_succ,Qp,Qq]
           rfl
          refine OC (Gi HT_.out (by kernel_rfl)) ?_
          try go_wp2
          go_roundg k1
          case measure=>have:=HK1.out;omega
          case rel=>exact ⟨(qlX),(wrap64 (YU+1)),(by first|rfl|(simp;done)|(simp [*];done)),H',⟨by have:=HK1.out;omega⟩,⟨by (with_reducible repeat (first|apply Kd.R_alloc|apply Kd.R_drewN|apply Kd.R_drew));exact qkt.out⟩,⟨by (with_reducible repeat (first|refine Q5 ?_ _|refine Q6 ?_|refine Q3 ?_ _));exact Ja.out⟩,⟨by repeat (first|(with_reducible first|exact HB.out|apply Q2|apply Q1|apply Q4|refine Q7 ?_ UB.out)|exact HB.out)⟩⟩
         rw [if_neg c13] at H
         exact absurd H (by simp)
        rw [if_neg c11] at H
        exact absurd H (by simp)
       rw [if_neg c10] at H
       exact absurd H (by simp)
      rw [if_neg c9] at H
      exact absurd H (by simp)
     rw [if_neg c8] at H
     exact absurd H (by simp)
    rw [if_neg c7] at H
    exact absurd H (by simp)
   rw [if_neg c6] at H
   have c6b0:decide (YU<(l1.length:Int))=false:=decide_eq_false c6
   clear c6
   replace H:=Option.bind_eq_some_iff.mp H
   obtain ⟨t141,qkf,H⟩:=H
   replace H:(some t141)=some r:=H
   have A17:=Q0.mk qkf
   clear qkf
   obtain rfl:=Option.some.inj H
   obtain ⟨qpj,qpA,qpO⟩:=Kd.R_slice HO_9.out
   subst qpO
   go_wp2_with (first|((with_reducible refine Qz (f:=97) rfl ?_);refine Yo (some 36) rfl rfl Try.func97 (by kernel_rfl) rfl #[.slice qpj Uy.length qpA] rfl (by (try simp only [List.map_toArray,List.map_cons,List.map_nil]);first|done|rfl|(simp only [List.length_drop,List.length_take];rfl)) ?_;(with_reducible refine (QS.calls k1 _ _ Uy t141 _ ?side1 ?side2 A17.out).mono ?_);(case side1=>repeat (first|exact (Kd.R_reads' HO_9.out).2.2|(with_reducible refine Kd.C_alloc ?_ _)|(with_reducible refine Kd.C_drewN ?_ _)|(with_reducible refine Kd.C_drew ?_)));(case side2=>exact (Kd.R_reads' HO_9.out).2.1);rintro e w' ⟨rfl,⟨nd,rfl⟩⟩;refine ⟨_,rfl,?_⟩))
   go_ret
   exact ⟨by first|rfl|(simp [Qv,Qw]<;>rfl)|(simp [*,Qv,Qw]<;>rfl),by repeat (first|(with_reducible first|exact HB.out|apply Q2|apply Q1|apply Q4|refine Q7 ?_ UB.out)|exact HB.out)⟩
end
end Go.Proofs.Ytmhomdohhihlcaa.P
namespace Go.Proofs.Ytmhomdohhihlcaa.P
open Go.RowKit Go.Shelf Go.Proofs.YtmhomdohhihlcaaW.PrintWords Go.Proofs.YtmhomdohhihlcaaW.PrintLast Go.Proofs.YtmhomdohhihlcaaW.PrintMore
attribute [local go_sem] Oper.semAt_some
section
variable {F:Fence} {n:Nat} {P:Program} {a:Act} {w:World} {Q:Exit→Act→World→Prop}
theorem Kx {b:Frame} {c:Code} {k:List Item} {cs:List Frame}:step P (lone (b.atR a (.code (.scope c)::k)) cs w) = .next (lone (b.atR a (.code c :: .inScope c::k)) cs w) :=
 step_lone_go (by simp [stepG,stepG.exec,Frame.atR])
theorem qcV {b:Frame} {c:Code} {k:List Item} {cs:List Frame}:step P (lone (b.atR a (.inScope c::k)) cs w) = .next (lone (b.atR a k) cs w) :=
 step_lone_go (by simp [stepG,stepG.exec,Frame.atR])
theorem qhD {c:Code} (h:c.wpIn F n P (Exit.noGoto Q) a w):(Code.scope c).wpIn F n P Q a w:=by
 intro b k cs hro hb hr
 have h0:(lone (b.atR a (.code (.scope c)::k)) cs w).fenced P F:=fenced_calm hb hr rfl
 obtain ⟨e,a₁,w₁,hq,harr⟩:=h b (.inScope c::k) cs hro hb hr
 cases e with
 | normal=>exact ⟨.normal,a₁,w₁,hq,.head h0 Kx (StepsIn.trans harr (.one (fenced_calm hb hr rfl) qcV))⟩
 | exit id' =>
  have hx:exitTo id' (.inScope c::k)=exitTo id' k:=by simp [exitTo]
  exact ⟨.exit id',a₁,w₁,hq,fun k' hk => .head h0 Kx (harr.1 k' (by rw [hx];exact hk)),
    fun hr' hk=>let ⟨k₁,h1,h2⟩:=harr.2 hr' (by rw [hx];exact hk);⟨k₁,h1,.head h0 Kx h2⟩⟩
 | goto l=>exact hq.elim
 | ret=>exact ⟨_,a₁,w₁,hq,.of_steps (.one h0 Kx) harr⟩
 | panic ch=>exact ⟨_,a₁,w₁,hq,.of_steps (.one h0 Kx) harr⟩
 | outgrown=>exact ⟨_,a₁,w₁,hq,.of_steps (.one h0 Kx) harr⟩
end
structure Stop (p:Prop):Prop where
 out:p
theorem X2 {l n:Nat} {P:Program} {id:Nat} {Q:Exit→Act→World→Prop} {a:Act} {w:World} {ops:List Oper} (m:Nat) (hm:P.follows .mixedOrders=true) (hno:¬ LetsOut Q) (hd:ops.toArray.all (fun o=>match o.op with | .defer _=>false|_=>true)=true) (hB:Region.lexTailB .any ops.toArray m=true)
  (h:wpStill P ops.toArray { w with drawn:=w.drawn+1 } (fun a'=>wpList P ops.toArray Q (ops.drop m) a' { w with drawn:=w.drawn+1 }) (ops.take m) a):(Code.region id ops.toArray true).wpIn (Fence.wide.inRound l) n P Q a w:=by
 simp only [Region.lexTailB,Bool.and_eq_true,decide_eq_true_eq] at hB
 obtain ⟨⟨⟨⟨hsel,hn⟩,hs⟩,hc⟩,hlex⟩:=hB
 have hn':m<ops.length:=by simpa using hn
 have htl:(ops.take m).length=m:=by simp;omega
 have hdl:(ops.drop m).length=ops.toArray.size-m:=by simp
 have inv0:HeadInv .any ops.toArray m (Array.replicate ops.toArray.size false) :=
  ⟨by simp,fun j oj _ hl=>(by rw [getD_replicate_false] at hl;cases hl),fun t _ ht=>getD_in (by simpa using ht) (getD_replicate_false _ _)⟩
 have H:=wpAnyL_lex (md:=.any) (g:=ops.toArray.size-m) hsel hs hc hn (ops.take m) 0 _ a (fun j hj=>by
  have hj':j<m:=by rw [htl] at hj;exact hj
  simp [hj']) (by simpa using htl) inv0 (by rw [htl];exact hlex) h
 refine Ow hm hno hd ?_
 have:=wpAny_of_head (Q':=Q) (g:=ops.toArray.size-m) (fun listed a' hL=>by
  have:=wpAny_of_seq (md:=.any) (Q':=Q) (ops.drop m) m listed a' { w with drawn:=w.drawn+1 } (fun j=>by simp [List.getElem?_drop]) (by rw [hdl];exact hL.1) hL.2
  rwa [hdl] at this) _ _ _ H
 rw [htl,show m+(ops.toArray.size-m)=ops.toArray.size by omega] at this
 exact this
def Qo.ag (k:Nat) (l0:List (List S25)) (l1:List S25) (mix:List Int):Nat→Int→Option Bool
 | 0,_=>some true
 | d+1,i=>(QG.f k 0 mix l0 i).bind fun lo=>if wrap64 (100*(Qs l1 i).f1)<lo then some false else
   (QB.f k 0 mix l0 i).bind fun hi=>if hi<wrap64 (100*(Qs l1 i).f0) then some false else Qo.ag k l0 l1 mix d (i+1)
def Qo.wide (out:List S25) (mix:List Int):List S25:=(out.zip mix).map fun p=>⟨if p.2<p.1.f0 then p.2 else p.1.f0,if p.1.f1<p.2 then p.2 else p.1.f1⟩
def Qo.st (k:Nat) (l0:List (List S25)) (l1:List S25) (out:List S25) (mix:List Int):Option (List S25) :=
 (Qo.ag k l0 l1 mix l1.length 0).map fun b=>if b then Qo.wide (if out=[] then mix.map (fun n=>⟨n,n⟩) else out) mix else out
def Qo.all (k:Nat) (l0:List (List S25)) (l1:List S25):List (List Int)→List S25→Option (List S25)
 | [],out=>some out
 | x::xs,out=>(Qo.st k l0 l1 out x).bind fun o=>Qo.all k l0 l1 xs o
def Qo.sg (k:Nat) (n:Int):List (List S25)→Bool→Option Bool
 | [],ok=>some ok
 | x::xs,ok=>if ok then (Qy.f k x n).bind fun b=>Qo.sg k n xs b else Qo.sg k n xs false
def Qo.f (k:Nat) (l0:List (List S25)) (l1:List S25):Option (List S25 × Int) :=
 (Qj.f (l0.length:Int) 1 3).bind fun b0=>(if b0 then Qy.f k l1 (l1.length:Int) else some false).bind fun b1 =>
 (Qo.sg k (l1.length:Int) l0 b1).bind fun ok=>if ok then
  (Qo.all k l0 l1 (Jz (l0.length-1) 100 []) []).map fun out=>if out=[] then ([],4) else (out,0)
 else some ([],91)
def OJ (o:List S25) (x:List Int) (j:Nat):List S25:=Qo.wide (o.take j) (x.take j)++o.drop j
theorem qhC (o:List S25) (x:List Int):OJ o x 0=o:=by simp [OJ,Qo.wide]
theorem qj7 {o:List S25} {x:List Int} (h:o.length=x.length):OJ o x x.length=Qo.wide o x:=by
 unfold OJ
 rw [List.take_length,← h,List.take_length,List.drop_length,List.append_nil]
theorem qdj {o:List S25} {x:List Int} (h:o.length=x.length) {j:Nat} (hj:j≤x.length):(OJ o x j).length=x.length:=by
 simp [OJ,Qo.wide];omega
theorem qlS {o:List S25} {x:List Int} (h:o.length=x.length) {j:Nat} (hj:j<x.length):(OJ o x j).getD j z25=o.getD j z25:=by
 have hl:(Qo.wide (o.take j) (x.take j)).length=j:=by simp [Qo.wide];omega
 unfold OJ
 rw [List.getD_eq_getElem?_getD,List.getD_eq_getElem?_getD,List.getElem?_append_right (by omega),hl,Nat.sub_self,List.getElem?_drop,Nat.add_zero]
theorem qhB {o:List S25} {x:List Int} (h:o.length=x.length) {j:Nat} (hj:j<x.length) {p:S25} (hp:(OJ o x j).getD j z25=p) :
  (OJ o x j).set j ⟨if rd x (j:Int)<p.f0 then rd x (j:Int) else p.f0,if p.f1<rd x (j:Int) then rd x (j:Int) else p.f1⟩=OJ o x (j+1):=by
 rw [qlS h hj] at hp
 have hjo:j<o.length:=by omega
 have hl:(Qo.wide (o.take j) (x.take j)).length=j:=by simp [Qo.wide];omega
 have e1:o[j]=p:=by rw [← hp];simp [List.getD_eq_getElem?_getD,List.getElem?_eq_getElem hjo]
 have e2:rd x (j:Int)=x[j]:=by simp [rd,List.getD_eq_getElem?_getD,List.getElem?_eq_getElem hj]
 unfold OJ
 rw [List.set_append_right _ _ (by omega),hl,Nat.sub_self,List.drop_eq_getElem_cons hjo,List.set_cons_zero,List.take_succ_eq_append_getElem hjo,List.take_succ_eq_append_getElem hj,e2]
 unfold Qo.wide
 rw [List.zip_append (by simp;omega),List.map_append,List.append_assoc]
 simp [e1]
theorem Qo.ag_mono (l0:List (List S25)) (l1:List S25) (mix:List Int) (k:Nat):∀ (d:Nat) (i:Int),LeO (Qo.ag k l0 l1 mix d i) (Qo.ag (k+1) l0 l1 mix d i)
 | 0,_=>LeO.refl _
 | d+1,i=>LeO.bind (QG.mono _ _ _ _ _) (fun _=>LeO.ite (LeO.refl _) (LeO.bind (QB.mono _ _ _ _ _) (fun _=>LeO.ite (LeO.refl _) (Qo.ag_mono l0 l1 mix k d (i+1)))))
theorem Qo.all_mono (l0:List (List S25)) (l1:List S25) (k:Nat):∀ (xs:List (List Int)) (o:List S25),LeO (Qo.all k l0 l1 xs o) (Qo.all (k+1) l0 l1 xs o)
 | [],_=>LeO.refl _
 | x::xs,o=>LeO.bind (LeO.map _ (Qo.ag_mono l0 l1 x k _ _)) (fun o2=>Qo.all_mono l0 l1 k xs o2)
theorem Qo.sg_mono (n:Int) (k:Nat):∀ (xs:List (List S25)) (b:Bool),LeO (Qo.sg k n xs b) (Qo.sg (k+1) n xs b)
 | [],_=>LeO.refl _
 | x::xs,b=>LeO.ite (LeO.bind (Qy.mono _ _ _) (fun b2=>Qo.sg_mono n k xs b2)) (Qo.sg_mono n k xs false)
structure Kz (w:World) (A0:Option Addr) (c0 n0:Nat) (A1:Option Addr) (c1 n1:Nat) (W:World):Prop where
 b2:W.heap[w.heap.size]? = some (.cells #[.slice A0 n0 c0] 31 (0,0))
 b3:W.heap[w.heap.size+1]? = some (.cells #[.slice A1 n1 c1] 32 (0,0))
 below:Below w.heap.size w W
theorem Kz.keep {w:World} {A0 A1:Option Addr} {c0 n0 c1 n1:Nat} {W W1:World} (h:Kz w A0 c0 n0 A1 c1 n1 W) (hb:Below W.heap.size W W1):Kz w A0 c0 n0 A1 c1 n1 W1 :=
 ⟨Qf h.b2 hb,Qf h.b3 hb,h.below.trans (hb.mono h.below.size)⟩
theorem Kz.drew {w:World} {A0 A1:Option Addr} {c0 n0 c1 n1:Nat} {W:World} (h:Kz w A0 c0 n0 A1 c1 n1 W) (m:Nat):Kz w A0 c0 n0 A1 c1 n1 (W.drewN m) :=
 ⟨h.b2,h.b3,Q1 h.below m⟩
theorem qiL {k:Nat} {n:Int}:∀ {l:List (List S25)} {b:Bool},Qo.sg k n l b=some true→b=true
 | [],b,h=>by simpa [Qo.sg] using h
 | x::l,true,_=>rfl
 | x::l,false,h=>by
  rw [Qo.sg,if_neg (by decide)] at h
  exact qiL h
theorem qgn {a b c:Int} (h:Qj.f a b c=some true):b≤a∧a≤c:=by
 unfold Qj.f at h
 by_cases h1:b≤a
 ·
  rw [if_pos h1] at h
  exact ⟨h1,by simpa using h⟩
 ·
  rw [if_neg h1] at h
  simp at h
theorem qef {n:Nat} {P:Program} {g:Operand} {p q:Tmp} {assign body:Code} {Q:Exit→Act→World→Prop} {a:Act} {w:World}
  {gf:Nat} {lb:Array Value} (hg:a.eval g = .func (.func gf) #[] lb) (eg:∀ args w,(callFunc gf args).run P w = .ok (.enter gf args) w)
  {B:Nat} {xs:List (List Int)} {w0:World} (hseq:qaP (n-1) P gf lb B xs w0) (hb0:Below w0.heap.size w0 w)
  (I:List (List Int)→World→Prop) (hI:OwnFrom w.heap.size I) (hI0:∀ W1 W2 row,I [] W1→W1.grownBy W2 row→(∀ r,row=some r→w.heap.size≤r)→I [] W2) (h0:I [] w)
  (hassign:∀ (l:Nat) (v:Value) (W:World) (K:Act→World→Prop),K { tmps:=(a.tmps.setIfInBounds p v).setIfInBounds q v,defers:=[] } W →
   assign.wpIn (Fence.wide.inRound l) (n-1-1) P (Exit.then K (fun _ _ _=>False)) { tmps:=a.tmps.setIfInBounds p v,defers:=[] } W)
  (hbody:∀ (l:Nat) (pre:List (List Int)) (v:Value) (x:List Int) (W:World),I pre W→pre++[x] <+: xs→Kd.R (Kd.int .i64) 3 W B (fun _=>True) v x→body.wpIn (Fence.wide.inRound l) (n-1-1) P (qf0 B w.heap.size I (pre++[x]) W) { tmps:=(a.tmps.setIfInBounds p v).setIfInBounds q v,defers:=[] } W)
  (hdone:∀ (D:Nat) (W:World),w.heap.size≤D→I xs W→W.heap[D]? = some (.deferred (some []))→Q .normal { a with defers:={ target:=.collected D,args:=#[] }::a.defers } W) :
  (Code.rangeFunc g #[p] assign body).wpIn Fence.wide n P Q a w :=
 qcJ hg eg hseq hb0 I hI hI0 h0 (fun v => { tmps:=(a.tmps.setIfInBounds p v).setIfInBounds q v,defers:=[] }) (fun l v W K hK=>by
  have:=hassign l v W K hK
  simpa using this) hbody hdone
structure ShI (w:World) (k:Nat) (l0:List (List S25)) (l1:List S25) (A0:Option Addr) (c0:Nat) (A1:Option Addr) (c1 lb hb ob B:Nat) (pre:List (List Int)) (W:World):Prop where
 ex:∃ (v:Value) (out:List S25),Qo.all k l0 l1 pre []=some out∧W.heap[ob]? = some (.cells #[v] 32 (0,0))∧Kd.R k25 25 W B (fun _=>True) v out∧(v = .slice none 0 0↔out=[])
 bx:Kz w A0 c0 l0.length A1 c1 l1.length W
 lo:W.heap[lb]? = some (.cells #[.func (.func 68) #[] #[]] 104 (0,0))
 hi:W.heap[hb]? = some (.cells #[.func (.func 69) #[] #[]] 104 (0,0))
 sz:B≤W.heap.size
theorem O1 {W W1:World} {row:Option Nat} (hg:W.grownBy W1 row) (hr:∀ r,row=some r → ∃ o:Obj,W.heap[r]? = some o∧o.isCells=false) {g t:Nat} {cs:Array Value} {x:Nat × Nat} (h:W.heap[g]? = some (.cells cs t x)):W1.heap[g]? = some (.cells cs t x) :=
 (hg.block g (Array.getElem?_eq_some_iff.1 h).1 (fun e=>by obtain ⟨o,ho,hc⟩:=hr g e.symm;rw [h] at ho;cases ho;cases hc)).trans h
theorem ShI.step {w:World} {k:Nat} {l0:List (List S25)} {l1:List S25} {A0 A1:Option Addr} {c0 c1 lb hb ob B:Nat} {pre:List (List Int)} {W W1:World} {row:Option Nat} (h:ShI w k l0 l1 A0 c0 A1 c1 lb hb ob B pre W)
  (hg:W.grownBy W1 row) (hr:∀ r,row=some r→w.heap.size≤r ∧ ∃ o:Obj,W.heap[r]? = some o∧o.isCells=false):ShI w k l0 l1 A0 c0 A1 c1 lb hb ob B pre W1:=by
 have hr2:∀ r,row=some r → ∃ o:Obj,W.heap[r]? = some o∧o.isCells=false:=fun r e=>(hr r e).2
 obtain ⟨v,out,h1,h2,h3,h4⟩:=h.ex
 refine ⟨⟨v,out,h1,O1 hg hr2 h2,?_,h4⟩,⟨O1 hg hr2 h.bx.b2,O1 hg hr2 h.bx.b3,h.bx.below.grown hg h.bx.below.size (fun r e=>(hr r e).1)⟩,O1 hg hr2 h.lo,O1 hg hr2 h.hi,Nat.le_trans h.sz hg.size⟩
 refine Kd.R_mono (Kd.R_move (Kd.R_bound h3) (fun b hb => ?_)) (fun _ _=>trivial)
 obtain ⟨_,_,_,q,_,cs,hc⟩:=hb
 rw [hc]
 exact O1 hg hr2 hc
theorem _root_.Go.Proofs.YtmhomdohhihlcaaW.PrintWords.Kd.R_types2 {α:Type} {d:Kd α} {e:Nat} {w:World} {base:Nat} {ok:Nat→Prop} {v:Value} {xs:List α} (h:d.R e w base ok v xs) {g:Nat} {x:Option (List Deferred)} (hb:w.heap[g]? = some (.deferred x)):d.R e w base (fun k=>ok k∧k≠g) v xs :=
 Kd.R_mono (Kd.R_bound h) (fun k hk=>⟨hk.1,by
  obtain ⟨_,_,_,q,hq,cells',hc⟩:=hk
  rintro rfl
  rw [hc] at hb
  cases hb⟩)
theorem UQ {k:Nat} {l0:List (List S25)} {l1:List S25}:∀ (a b:List (List Int)) (o:List S25),Qo.all k l0 l1 (a++b) o=(Qo.all k l0 l1 a o).bind fun o2=>Qo.all k l0 l1 b o2
 | [],b,o=>rfl
 | x::a,b,o=>by
  simp only [List.cons_append,Qo.all,Option.bind_assoc]
  congr 1
  funext o2
  exact UQ a b o2
theorem qlT (out:List S25) (mix:List Int):(Qo.wide out mix).length=min out.length mix.length:=by simp [Qo.wide]
theorem qh4 {k:Nat} {l0:List (List S25)} {l1:List S25} {R:Nat}:∀ (a:List (List Int)) (o r:List S25),(∀ x∈a,x.length=R)→(o=[]∨o.length=R)→Qo.all k l0 l1 a o=some r→r=[]∨r.length=R
 | [],o,r,_,ho,h=>by
  injection h with h
  rw [← h]
  exact ho
 | x::a,o,r,ha,ho,h=>by
  obtain ⟨o2,h1,h2⟩:=Option.bind_eq_some_iff.1 h
  refine qh4 a o2 r (fun y hy=>ha y (List.mem_cons_of_mem _ hy)) ?_ h2
  obtain ⟨b,_,h3⟩:=Option.map_eq_some_iff.1 h1
  have hx:=ha x List.mem_cons_self
  cases b with
  | false=>rw [← h3];exact ho
  | true =>
   rw [← h3,if_pos rfl,qlT]
   right
   by_cases hz:o=[]
   ·
    rw [if_pos hz,List.length_map];omega
   ·
    rw [if_neg hz];have:=ho.resolve_left hz;omega
theorem qdf:∀ (m:Nat) (left:Int) (b x:List Int),x∈Jz m left b→x.length=b.length+m+1
 | 0,left,b,x,h=>by
  rw [Jz,List.mem_singleton] at h
  simp [h]
 | m+1,left,b,x,h=>by
  rw [Jz] at h
  obtain ⟨n,_,h⟩:=List.mem_flatMap.1 h
  have:=qdf m _ _ x h
  simp at this
  omega
theorem Kw {Bl B:Nat} {W W1:World} (hb:Below W.heap.size W W1):KeepsFrom Bl W W1∧Zf B W W1 :=
 ⟨⟨hb.size,fun k o _ hk _=>(hb.block k (Array.getElem?_eq_some_iff.1 hk).1).trans hk⟩,⟨hb.size,fun b cs t _ _ hk=>(hb.block b (Array.getElem?_eq_some_iff.1 hk).1).trans hk⟩⟩
theorem ShI.same {w:World} {k:Nat} {l0:List (List S25)} {l1:List S25} {A0 A1:Option Addr} {c0 c1 lb hb ob B:Nat} {pre:List (List Int)} {x:List Int} {W W1:World} (h:ShI w k l0 l1 A0 c0 A1 c1 lb hb ob B pre W)
  (hbl:Below W.heap.size W W1) (hx:∀ out,Qo.all k l0 l1 pre []=some out→Qo.all k l0 l1 (pre++[x]) []=some out):ShI w k l0 l1 A0 c0 A1 c1 lb hb ob B (pre++[x]) W1:=by
 obtain ⟨v,out,h1,h2,h3,h4⟩:=h.ex
 exact ⟨⟨v,out,hx out h1,Qf h2 hbl,Kd.R_below h3 hbl,h4⟩,h.bx.keep hbl,Qf h.lo hbl,Qf h.hi hbl,Nat.le_trans h.sz hbl.size⟩
structure ShO (w:World) (A0:Option Addr) (c0 n0:Nat) (A1:Option Addr) (c1 n1 lb hb ob B:Nat) (Ax:Option Addr) (x:List Int) (W z:World) (o:List S25):Prop where
 kf:KeepsFrom (B+1) W z
 kr:Zf B W z
 bx:Kz w A0 c0 n0 A1 c1 n1 z
 lo:z.heap[lb]? = some (.cells #[.func (.func 68) #[] #[]] 104 (0,0))
 hi:z.heap[hb]? = some (.cells #[.func (.func 69) #[] #[]] 104 (0,0))
 ex:∃ v,z.heap[ob]? = some (.cells #[v] 32 (0,0))∧Kd.R k25 25 z B (fun _=>True) v o∧(v = .slice none 0 0↔o=[])
 cx:Kd.C (Kd.int .i64) z Ax x.length x
 sz:B≤z.heap.size
theorem Jy {W W1:World} {B:Nat} {v:Value} {o:List S25} (hr:Kd.R k25 25 W B (fun _=>True) v o) (hg:W.grownBy W1 v.ownBlock) {g t:Nat} {cs:Array Value} (ht:t≠25) (h:W.heap[g]? = some (.cells cs t (0,0))):W1.heap[g]? = some (.cells cs t (0,0)) :=
 (hg.block g (Array.getElem?_eq_some_iff.1 h).1 (fun e=>by
  obtain ⟨cells,hc⟩:=O2 hr.2.choose_spec.1 g e.symm
  rw [h] at hc
  injection hc with hc
  injection hc with _ hc
  exact ht hc)).trans h
theorem ShO.app {w:World} {A0 A1 Ax:Option Addr} {c0 n0 c1 n1 lb:Nat} {x:List Int} {W z z3:World} {o o2:List S25} {v v3:Value} (h:ShO w A0 c0 n0 A1 c1 n1 lb (lb+1) (lb+2) (lb+3) Ax x W z o) (hwl:w.heap.size+2≤lb)
  (hb:z.heap[lb+2]? = some (.cells #[v] 32 (0,0))) (hr:Kd.R k25 25 z (lb+3) (fun _=>True) v o) (hg:z.grownBy z3 v.ownBlock) (hr3:Kd.R k25 25 z3 (lb+3) (fun _=>True) v3 o2) (hv:v3 = .slice none 0 0↔o2=[])
  {nx cx:Nat} (hrow:Kd.R (Kd.int .i64) 3 W (lb+3) (fun _=>True) (.slice Ax nx cx) x):ShO w A0 c0 n0 A1 c1 n1 lb (lb+1) (lb+2) (lb+3) Ax x W (z3.setCell ⟨lb+2,0,none⟩ v3) o2:=by
 have hb3:=Jy hr hg (by decide) hb
 have hbk:Below (lb+3) z z3:=(Below.refl _ z).grown hg h.sz (fun k e=>(Kd.R_bound hr).1 k e |>.2.1)
 have hof:∀ (k:Nat) (ob:Obj),ob.isCells=false→z.heap[k]? = some ob→(z3.setCell ⟨lb+2,0,none⟩ v3).heap[k]? = some ob:=fun k ob hob hk=>by
  refine (Below.heap_setCell z3 ⟨lb+2,0,none⟩ v3 k (fun e => ?_)).trans ((hg.block k (Array.getElem?_eq_some_iff.1 hk).1 (fun e => ?_)).trans hk)
  ·
   have e2:k=lb+2:=e
   rw [e2,hb] at hk
   cases hk
   cases hob
  ·
   obtain ⟨cells,hc⟩:=O2 hr.2.choose_spec.1 k e.symm
   rw [hk] at hc
   cases hc
   cases hob
 have hsz:(z3.setCell ⟨lb+2,0,none⟩ v3).heap.size=z3.heap.size:=by simp
 have kr':Zf (lb+3) W (z3.setCell ⟨lb+2,0,none⟩ v3):=⟨Nat.le_trans h.kr.size (by rw [hsz];exact hg.size),fun b cs t hb1 ht hk=>(Below.heap_setCell z3 ⟨lb+2,0,none⟩ v3 b (fun e=>by have e2:b=lb+2:=e;omega)).trans (Jy hr hg ht (h.kr.same b cs t hb1 ht hk))⟩
 refine ⟨⟨Nat.le_trans h.kf.size (by rw [hsz];exact hg.size),fun k ob hk1 hk hob=>hof k ob hob (h.kf.same k ob hk1 hk hob)⟩,kr',
  ⟨Qm (Jy hr hg (by decide) h.bx.b2) (p:=⟨lb+2,0,none⟩) (by simp;omega) _,Qm (Jy hr hg (by decide) h.bx.b3) (p:=⟨lb+2,0,none⟩) (by simp;omega) _,Q7 (h.bx.below.trans (hbk.mono (by omega))) (by omega)⟩,
  Qm (Jy hr hg (by decide) h.lo) (p:=⟨lb+2,0,none⟩) (by simp) _,Qm (Jy hr hg (by decide) h.hi) (p:=⟨lb+2,0,none⟩) (by simp) _,
  ⟨v3,QC hb3 0 _ rfl,Kd.R_mono (Kd.R_far (p:=⟨lb+2,0,none⟩) (Kd.R_types hr3 hb3 (by decide)) (fun _ hk=>hk.2) _) (fun _ _=>trivial),hv⟩,(Kd.R_reads' (qbv hrow kr')).2.2,by rw [hsz];exact Nat.le_trans h.sz hg.size⟩
theorem qnL:(Try.prog.info? 25).map (·.size)=some 2∧True:=⟨by
 have h:=qd9
 cases hi:Try.prog.info? 25 with
 | none=>rw [hi] at h;simp at h
 | some i=>rw [hi] at h;simp at h;simp [h.2.1],trivial⟩
theorem ShO.put {w:World} {A0 A1 Ax:Option Addr} {c0 n0 c1 n1 lb:Nat} {x:List Int} {W z z3:World} {o o1 o2:List S25} {go n cap:Nat} (h:ShO w A0 c0 n0 A1 c1 n1 lb (lb+1) (lb+2) (lb+3) Ax x W z o1) (hwl:w.heap.size+2≤lb)
  (hb:z.heap[lb+2]? = some (.cells #[.slice (some ⟨go,0,none⟩) n cap] 32 (0,0))) (hr:Kd.R k25 25 z (lb+3) (fun _=>True) (.slice (some ⟨go,0,none⟩) n cap) o) (hg:z.grownBy z3 (some go)) (hr3:Kd.R k25 25 z3 (lb+3) (fun _=>True) (.slice (some ⟨go,0,none⟩) n cap) o2) (hv:o2≠[])
  {nx cx:Nat} (hrow:Kd.R (Kd.int .i64) 3 W (lb+3) (fun _=>True) (.slice Ax nx cx) x):ShO w A0 c0 n0 A1 c1 n1 lb (lb+1) (lb+2) (lb+3) Ax x W z3 o2:=by
 have hg':z.grownBy z3 (Value.slice (some ⟨go,0,none⟩) n cap).ownBlock:=hg
 have hbk:Below (lb+3) z z3:=(Below.refl _ z).grown hg' h.sz (fun k e=>(Kd.R_bound hr).1 k e |>.2.1)
 have hof:∀ (k:Nat) (ob:Obj),ob.isCells=false→z.heap[k]? = some ob→z3.heap[k]? = some ob:=fun k ob hob hk=>by
  refine (hg'.block k (Array.getElem?_eq_some_iff.1 hk).1 (fun e => ?_)).trans hk
  obtain ⟨cells,hc⟩:=O2 hr.2.choose_spec.1 k e.symm
  rw [hk] at hc
  cases hc
  cases hob
 have kr':Zf (lb+3) W z3:=⟨Nat.le_trans h.kr.size hg.size,fun b cs t hb1 ht hk=>Jy hr hg' ht (h.kr.same b cs t hb1 ht hk)⟩
 refine ⟨⟨Nat.le_trans h.kf.size hg.size,fun k ob hk1 hk hob=>hof k ob hob (h.kf.same k ob hk1 hk hob)⟩,kr',
  ⟨Jy hr hg' (by decide) h.bx.b2,Jy hr hg' (by decide) h.bx.b3,?_⟩,Jy hr hg' (by decide) h.lo,Jy hr hg' (by decide) h.hi,
  ⟨_,Jy hr hg' (by decide) hb,hr3,⟨fun e=>(by cases e),fun e=>absurd e hv⟩⟩,(Kd.R_reads' (qbv hrow kr')).2.2,Nat.le_trans h.sz hg.size⟩
 exact h.bx.below.trans (hbk.mono (by omega))
theorem qjo (R:Int) (w:World):Calls Try.prog 70 #[.int .i64 R] w fun e w'=>e = .returned (.func (.func 95) #[] #[.pointer (some ⟨w.heap.size,0,none⟩)])∧w'=w.alloc (.cells #[.int .i64 R] 3):=by
 go_enter Try.func70,Try.ntmps70
 go_wp2
 go_ret
 exact ⟨rfl,rfl⟩
set_option maxHeartbeats 8000000 in
set_option maxRecDepth 100000 in
theorem Qo.calls (k:Nat) (A0:Option Addr) (c0:Nat) (l0:List (List S25)) (A1:Option Addr) (c1:Nat) (l1:List S25) (r1:List S25) (r2:Int) (w:World) (hr0:Kd.C (Kd.slice 25 k25) w A0 l0.length l0) (hc0:l0.length≤c0) (hr1:Kd.C k25 w A1 l1.length l1) (hc1:l1.length≤c1) (h:Qo.f k l0 l1=some (r1,r2)) :
  Calls Try.prog 22 #[.slice A0 l0.length c0,.slice A1 l1.length c1] w fun e w' => ∃ v0_,e = .returned (.tuple #[v0_,.int .i64 r2])∧Kd.V k25 25 w' w.heap.size (fun k_=>w.heap.size≤k_) v0_ r1∧Below w.heap.size w w':=by
 refine (callsIn_wide (n:=3)).1 ?_
 have hmix:Try.prog.follows .mixedOrders=true:=by kernel_rfl
 unfold Qo.f at h
 obtain ⟨b0,hb0,h⟩:=Option.bind_eq_some_iff.1 h
 obtain ⟨b1,hb1,h⟩:=Option.bind_eq_some_iff.1 h
 obtain ⟨ok,hok,h⟩:=Option.bind_eq_some_iff.1 h
 have HR0:=Q0.mk hr0
 have HC0:=Q0.mk hc0
 have HR1:=Q0.mk hr1
 have HC1:=Q0.mk hc1
 have HH:=Q0.mk h
 have HB0:=Q0.mk hb0
 have HB1:=Q0.mk hb1
 have HOK:=Q0.mk hok
 clear hr0 hc0 hr1 hc1 h hb0 hb1 hok
 refine callsIn_of_wp_marks Try.func22 rfl trivial ?_ rfl
 simp only [Try.ntmps22,List.size_toArray,List.length_cons,List.length_nil,Nat.reduceAdd,Nat.reduceSub,Array.replicate_succ,Array.replicate_zero,List.push_toArray,List.append_toArray,List.nil_append,List.cons_append]
 gi_wp2
 apply qhD
 have HX:=Q0.mk (show Kz w A0 c0 l0.length A1 c1 l1.length ((w.alloc (.cells #[.slice A0 l0.length c0] 31)).alloc (.cells #[.slice A1 l1.length c1] 32)) from
  ⟨(Below.heap_alloc _ _ _ (by simp)).trans (World.alloc_heap_new w _),by have:=World.alloc_heap_new (w.alloc (.cells #[.slice A0 l0.length c0] 31)) (.cells #[.slice A1 l1.length c1] 32);rwa [World.size_alloc] at this,Q2 (Q2 (Below.refl _ _) _) _⟩)
 have HLEN:=Q0.mk (show ok=true→1≤l0.length∧l0.length≤3 from fun e=>by
  have h1:=HOK.out
  rw [e] at h1
  have h2:=qiL h1
  have h3:=HB1.out
  rw [h2] at h3
  have h4:b0=true:=by
   cases b0 with
   | true=>rfl
   | false=>simp at h3
  have h5:=HB0.out
  rw [h4] at h5
  have h6:=qgn h5
  omega)
 gi_upto_region 1 with (fail)
 gi_cut [6] from 19 (fun v6 wc=>v6 = .bool b1∧Q0 (Kz w A0 c0 l0.length A1 c1 l1.length wc))
 case first =>
  cases b0 with
  | false =>
   obtain rfl:b1=false:=by have:=HB1.out;simpa using this.symm
   gi_wp2_with (first|(refine ⟨trivial,(callsIn_wide.2 (Qj.calls _ _ _ false _ HB0.out)).mono ?_⟩;rintro e w' ⟨rfl,⟨nd,rfl⟩⟩)|(refine ⟨trivial,?_⟩))
   gi_meet
   case rel=>exact ⟨rfl,⟨HX.out.drew nd⟩⟩
  | true =>
   have HA1:=Q0.mk (show Qy.f k l1 (l1.length:Int)=some b1 from HB1.out)
   gi_wp2_with (first|(refine ⟨trivial,(callsIn_wide.2 (Qj.calls _ _ _ true _ HB0.out)).mono ?_⟩;rintro e w' ⟨rfl,⟨nd,rfl⟩⟩)|(refine ⟨trivial,(callsIn_wide.2 (Qy.calls k A1 c1 l1 (l1.length:Int) b1 _ ?hx HC1.out HA1.out)).mono ?_⟩;(case hx=>exact Kd.C_below HR1.out (HX.out.drew nd).below);rintro e w' ⟨rfl,hbb⟩))
   gi_meet
   case rel=>exact ⟨rfl,⟨(HX.out.drew nd).keep hbb⟩⟩
 case rest =>
  clear HX HB0 HB1
  obtain ⟨rfl,HX⟩:=hcut
  have hcz2:wc.cell? ⟨w.heap.size,0,none⟩=some (.slice A0 l0.length c0):=(Q8 HX.out.b2 0).trans rfl
  gi_wp2
  gi_loopg [6,30] l0.length (fun d v6 v30 wr => ∃ (b:Bool) (i:Nat),v6 = .bool b∧v30 = .int .i64 (i:Int)∧Q0 (i+d=l0.length)∧Q0 (Qo.sg k (l1.length:Int) (l0.drop i) b=some ok)∧Q0 (Kz w A0 c0 l0.length A1 c1 l1.length wr))
  case atStart=>exact ⟨b1,0,rfl,rfl,⟨by omega⟩,⟨by simpa using HOK.out⟩,HX⟩
  case round =>
   clear hcz2 HX
   obtain ⟨b,i,rfl,rfl,HD,HS,HX⟩:=hrel
   have hmx:l0.length≤9223372036854775807:=HR0.out.2.1
   by_cases hi:i<l0.length
   ·
    obtain ⟨d,rfl⟩:∃ d,gk=d+1:=⟨gk-1,by have:=HD.out;omega⟩;have qpT:wr.cell? ⟨w.heap.size+1,0,none⟩=some (.slice A1 l1.length c1):=(Q8 HX.out.b3 0).trans rfl;obtain ⟨ad,A2,c2,ea,hx,hc2,hr2⟩:=XE HR0.out (i:Int) (by omega) (by omega);subst ea;replace hx:=(HX.out.below.cell (World.block_lt_of_cell? w _ hx)).trans hx;rw [Int.toNat_natCast] at hx
    have hdrop:l0.drop i=Yh l0 i::l0.drop (i+1):=by
     rw [List.drop_eq_getElem_cons hi]
     congr 1
     simp [Yh,List.getD_eq_getElem?_getD,List.getElem?_eq_getElem hi]
    have HS2:=Q0.mk (show Qo.sg k (l1.length:Int) (Yh l0 i::l0.drop (i+1)) b=some ok by rw [← hdrop];exact HS.out);have HCA:=Q0.mk hr2;have HC2:=Q0.mk hc2;clear hdrop hr2 hc2
    cases b with
    | false =>
     gi_wp2_with (refine ⟨trivial,?_⟩)
     gi_roundg d
     case measure=>omega
     case rel=>exact ⟨false,i+1,rfl,by simp,⟨by have:=HD.out;omega⟩,⟨by have:=HS2.out;simpa [Qo.sg] using this⟩,HX⟩
    | true =>
     obtain ⟨b3,h3,h4⟩:=Option.bind_eq_some_iff.1 (show (Qy.f k (Yh l0 i) (l1.length:Int)).bind (fun b=>Qo.sg k (l1.length:Int) (l0.drop (i+1)) b)=some ok by have:=HS2.out;simpa [Qo.sg] using this);have HS3:=Q0.mk h3;have HS4:=Q0.mk h4;clear h3 h4
     gi_wp2_with (refine ⟨trivial,(callsIn_wide.2 (Qy.calls k A2 c2 (Yh l0 i) (l1.length:Int) b3 _ ?hx HC2.out HS3.out)).mono ?_⟩;(case hx=>exact Kd.C_below HCA.out HX.out.below);rintro e w' ⟨rfl,hbb⟩)
     gi_roundg d
     case measure=>omega
     case rel=>exact ⟨b3,i+1,rfl,by simp,⟨by have:=HD.out;omega⟩,⟨HS4.out⟩,⟨HX.out.keep hbb⟩⟩
   ·
    have HE:=Q0.mk (show some b=some ok by have:=HS.out;rw [List.drop_eq_nil_of_le (by omega)] at this;exact this);clear HS;obtain rfl:b=ok:=Option.some.inj HE.out;clear HE
    cases b with
    | false =>
     have HF:=HH.out;rw [if_neg (by decide)] at HF
     injection HF with HF
     injection HF with e1 e2
     subst e1 e2
     gi_wp2
     simp only [Exit.noGoto];refine ⟨_,results_tmp2 rfl _ _ _,?_⟩
     exact ⟨_,rfl,Kd.V_nil _ _ _ _ _,HX.out.below⟩
    | true =>
     have HF:=HH.out;rw [if_pos rfl] at HF;have HF:=Q0.mk HF;clear HH
     gi_wp2
     apply wpIn_label
     obtain ⟨lb,hlb⟩:∃ lb,wr.heap.size=lb:=⟨_,rfl⟩;obtain ⟨W0,hW0⟩:∃ W0,((wr.alloc (.cells #[.func (.func 68) #[] #[]] 104)).alloc (.cells #[.func (.func 69) #[] #[]] 104)).alloc (.cells #[.slice none 0 0] 32)=W0:=⟨_,rfl⟩
     have hwlb:w.heap.size≤lb:=by rw [← hlb];exact HX.out.below.size
     have qpc:w.heap.size+2≤lb:=by have:=QO HX.out.b3;omega
     have hs0:W0.heap.size=lb+3:=by rw [← hW0,← hlb];simp
     have hB0:Below wr.heap.size wr W0:=by rw [← hW0];exact Q2 (Q2 (Q2 (Below.refl _ _) _) _) _
     have hX0:=HX.out.keep hB0
     have hlo0:W0.heap[lb]? = some (.cells #[.func (.func 68) #[] #[]] 104 (0,0)):=by
      rw [← hW0,← hlb];exact (Below.heap_alloc _ _ _ (by simp;omega)).trans ((Below.heap_alloc _ _ _ (by simp)).trans (World.alloc_heap_new wr _))
     have hhi0:W0.heap[lb+1]? = some (.cells #[.func (.func 69) #[] #[]] 104 (0,0)):=by
      rw [← hW0,← hlb];refine (Below.heap_alloc _ _ _ (by simp)).trans ?_;have:=World.alloc_heap_new (wr.alloc (.cells #[.func (.func 68) #[] #[]] 104)) (.cells #[.func (.func 69) #[] #[]] 104);rwa [World.size_alloc] at this
     have qtH:W0.heap[lb+2]? = some (.cells #[.slice none 0 0] 32 (0,0)):=by
      rw [← hW0,← hlb];have:=World.alloc_heap_new ((wr.alloc (.cells #[.func (.func 68) #[] #[]] 104)).alloc (.cells #[.func (.func 69) #[] #[]] 104)) (.cells #[.slice none 0 0] 32);rwa [World.size_alloc,World.size_alloc] at this
     rw [hW0,show wr.heap.size+1+1=lb+2 by omega,show wr.heap.size+1=lb+1 by omega,hlb];have HI0:=Q0.mk (show ShI w k l0 l1 A0 c0 A1 c1 lb (lb+1) (lb+2) (lb+3) [] W0 from ⟨⟨_,[],rfl,qtH,Kd.R_nil _ _ _ _ _,by simp⟩,hX0,hlo0,hhi0,by omega⟩);have hcz2:W0.cell? ⟨w.heap.size,0,none⟩=some (.slice A0 l0.length c0):=(Q8 hX0.b2 0).trans rfl;clear hX0 hlo0 hhi0 qtH hB0 HX hW0
     gi_wp2_with (refine ⟨trivial,(callsIn_wide.2 (qjo _ _)).mono ?_⟩;rintro e w' ⟨rfl,rfl⟩)
     obtain ⟨hR1,hR3⟩:=(by simpa using HLEN.out)
     have hrb:(W0.alloc (.cells #[.int .i64 (l0.length:Int)] 3)).heap[lb+3]? = some (.cells #[.int .i64 (l0.length:Int)] 3 (0,0)):=by
      rw [← hs0];exact World.alloc_heap_new W0 _
     have hs1:(W0.alloc (.cells #[.int .i64 (l0.length:Int)] 3)).heap.size=lb+4:=by simp;omega
     refine qef (p:=49) (q:=12) (gf:=95) (lb:=#[.pointer (some ⟨lb+3,0,none⟩)]) (B:=lb+3) (xs:=Jz (l0.length-1) 100 []) rfl (enters_of Try.func95 (by kernel_rfl) rfl)
      (qcQ _ l0.length (lb+3) (lb+3) _ hR1 hR3 (Nat.le_refl _) hrb) (Below.refl _ _) (ShI w k l0 l1 A0 c0 A1 c1 lb (lb+1) (lb+2) (lb+3)) ?hI ?hI0 ?h0 ?assign ?body ?done
     case hI=>exact fun pre W1 W2 row h hg hr=>h.step hg (fun r e=>⟨by have:=(hr r e).1;omega,(hr r e).2⟩)
     case hI0 =>
      intro W1 W2 row h hg hr;obtain ⟨v,out,h1,h2,h3,h4⟩:=h.ex;obtain rfl:[]=out:=Option.some.inj h1;obtain rfl:=h4.2 rfl
      have kp:∀ g o,g<lb+4→W1.heap[g]? = some o→W2.heap[g]? = some o:=fun g o hg2 ho=>(hg.block g (Array.getElem?_eq_some_iff.1 ho).1 (fun e=>by have:=hr g e.symm;omega)).trans ho
      exact ⟨⟨_,[],rfl,kp _ _ (by omega) h2,Kd.R_nil _ _ _ _ _,by simp⟩,⟨kp _ _ (by omega) h.bx.b2,kp _ _ (by omega) h.bx.b3,h.bx.below.grown hg h.bx.below.size (fun r e=>by have:=hr r e;omega)⟩,kp _ _ (by omega) h.lo,kp _ _ (by omega) h.hi,Nat.le_trans h.sz hg.size⟩
     case h0=>exact HI0.out.step (World.grownBy_alloc _ _ none) (fun r e=>by cases e)
     case assign =>
      intro l v W K hK
      gi_wp2
      exact hK
     case body =>
      intro l pre v x W hI hpre hrow
      have hlen:∀ y∈pre++[x],y.length=l0.length:=fun y hy=>by
       have:=qdf _ _ _ _ (hpre.subset hy)
       simp at this
       omega
      have hxl:x.length=l0.length:=hlen x (by simp);obtain ⟨Ax,cx,rfl,hcx,hCx⟩:=Kd.R_reads hrow;obtain ⟨vo,out,h1,h2,h3,h4⟩:=hI.ex;have hout:out=[]∨out.length=l0.length:=qh4 pre [] out (fun y hy=>hlen y (by simp [hy])) (.inl rfl) h1
      obtain ⟨bb,hag,hst⟩:∃ bb,Qo.ag k l0 l1 x l1.length 0=some bb∧Qo.all k l0 l1 (pre++[x]) []=some (if bb then Qo.wide (if out=[] then x.map (fun n=>⟨n,n⟩) else out) x else out):=by
       obtain ⟨ys,hys⟩:=hpre;have hF:=HF.out;rw [← hys,UQ,UQ,h1] at hF
       cases hs:Qo.st k l0 l1 out x with
       | none=>simp [Qo.all,hs] at hF
       | some o =>
        obtain ⟨bb,hb1,hb2⟩:=Option.map_eq_some_iff.1 hs;refine ⟨bb,hb1,?_⟩;rw [UQ,h1];simp only [Option.bind_some,Qo.all,hs,← hb2]
      have HI:=Q0.mk hI;have HAG:=Q0.mk hag;have HST:=Q0.mk hst;have HOUT:=Q0.mk hout;have HROW:=Q0.mk hrow;have HCX:=Q0.mk hCx;have HN:=Q0.mk h4;have HR3:=Q0.mk h3;have HBO:=Q0.mk h2;have HALL:=Q0.mk h1
      have hmxx:x.length≤3:=by omega
      have HXL:=Q0.mk hxl;clear hI hag hst hout hrow hCx h4 h3 h2 h1 HF hpre hlen hxl;simp only [List.setIfInBounds_toArray,List.set_cons_succ,List.set_cons_zero];have qpT:W.cell? ⟨w.heap.size+1,0,none⟩=some (.slice A1 l1.length c1):=(Q8 HI.out.bx.b3 0).trans rfl;have qA0:l1.length≤9223372036854775807:=HR1.out.2.1
      gi_wp2
      gi_loopg [52] l1.length (fun d v52 wr => ∃ (i:Nat),v52 = .int .i64 (i:Int)∧Q0 (i+d=l1.length)∧Q0 (Qo.ag k l0 l1 x d (i:Int)=some bb)∧Q0 (Below W.heap.size W wr))
      case atStart=>exact ⟨0,rfl,⟨by omega⟩,HAG,⟨Below.refl _ _⟩⟩
      case round =>
       obtain ⟨i,rfl,HD,HA,HB⟩:=hrel
       by_cases hi:i<l1.length
       ·
        obtain ⟨d,rfl⟩:∃ d,gk=d+1:=⟨gk-1,by have:=HD.out;omega⟩;obtain ⟨ad,ea,hx0,hx1⟩:=JM HR1.out (i:Int) (by omega) (by omega);subst ea;replace hx0:=(HI.out.bx.below.cell (World.block_lt_of_cell? w _ hx0)).trans hx0;replace hx1:=(HI.out.bx.below.cell (World.block_lt_of_cell? w _ hx1)).trans hx1;replace hx0:=(HB.out.cell (World.block_lt_of_cell? W _ hx0)).trans hx0;replace hx1:=(HB.out.cell (World.block_lt_of_cell? W _ hx1)).trans hx1;rw [Int.toNat_natCast] at hx0 hx1;have X1:=Try.underlying25
        gi_wp2
        have hww:w.heap.size≤W.heap.size:=HI.out.bx.below.size;have hlbW:lb+3≤W.heap.size:=HI.out.sz;have hWr:W.heap.size≤wr.heap.size:=HB.out.size;obtain ⟨We,hWe⟩:∃ We,wr.alloc (.cells #[.int .i64 (Qs l1 (i:Int)).f0,.int .i64 (Qs l1 (i:Int)).f1] 25)=We:=⟨_,rfl⟩
        have hbe:Below wr.heap.size wr We:=by rw [← hWe];exact Q2 (Below.refl _ _) _
        have h14:We.heap[wr.heap.size]? = some (.cells #[.int .i64 (Qs l1 (i:Int)).f0,.int .i64 (Qs l1 (i:Int)).f1] 25 (0,0)):=by rw [← hWe];exact World.alloc_heap_new wr _
        have hse:We.heap.size=wr.heap.size+1:=by rw [← hWe];simp
        have HBe:=Q0.mk (show Below W.heap.size W We from HB.out.trans (hbe.mono hWr))
        have hSb:∀ z:World,Below We.heap.size We z→(fun z=>z.cell? ⟨lb,0,none⟩=some (.func (.func 68) #[] #[])∧z.cell? ⟨lb+1,0,none⟩=some (.func (.func 69) #[] #[])∧z.cell? ⟨w.heap.size,0,none⟩=some (.slice A0 l0.length c0)∧z.cell? ⟨wr.heap.size,0,none⟩=some (.int .i64 (Qs l1 (i:Int)).f0)∧z.cell? ⟨wr.heap.size,1,none⟩=some (.int .i64 (Qs l1 (i:Int)).f1)) z:=fun z hz=>by
         have hbz:Below W.heap.size W z:=HBe.out.trans (hz.mono (by omega))
         exact ⟨(Q8 (Qf HI.out.lo hbz) 0).trans rfl,(Q8 (Qf HI.out.hi hbz) 0).trans rfl,(Q8 (Qf HI.out.bx.b2 hbz) 0).trans rfl,(Q8 (Qf h14 hz) 0).trans rfl,(Q8 (Qf h14 hz) 1).trans rfl⟩
        have hS:(fun z=>z.cell? ⟨lb,0,none⟩=some (.func (.func 68) #[] #[])∧z.cell? ⟨lb+1,0,none⟩=some (.func (.func 69) #[] #[])∧z.cell? ⟨w.heap.size,0,none⟩=some (.slice A0 l0.length c0)∧z.cell? ⟨wr.heap.size,0,none⟩=some (.int .i64 (Qs l1 (i:Int)).f0)∧z.cell? ⟨wr.heap.size,1,none⟩=some (.int .i64 (Qs l1 (i:Int)).f1)) We.drew:=hSb We.drew (Yl (Below.refl _ _));rw [hWe];clear hx0 hx1 qpT
        obtain ⟨lo,hlo1,hlo2⟩:=Option.bind_eq_some_iff.1 (show (QG.f k 0 x l0 (i:Int)).bind (fun lo=>if wrap64 (100*(Qs l1 (i:Int)).f1)<lo then some false else
   (QB.f k 0 x l0 (i:Int)).bind fun hi=>if hi<wrap64 (100*(Qs l1 (i:Int)).f0) then some false else Qo.ag k l0 l1 x d ((i:Int)+1))=some bb from HA.out)
        have HLO:=Q0.mk hlo1;clear hlo1 HA;obtain ⟨qh,hqh⟩:∃ q,IntKind.i64.wrap (100*(Qs l1 (i:Int)).f1)=q:=⟨_,rfl⟩;obtain ⟨ql,hql⟩:∃ q,IntKind.i64.wrap (100*(Qs l1 (i:Int)).f0)=q:=⟨_,rfl⟩;rw [← Qp,← Qp,hqh,hql] at hlo2
        by_cases cc:qh<lo
        ·
         obtain rfl:false=bb:=by rw [if_pos cc] at hlo2;exact Option.some.inj hlo2
         clear hlo2;have ccb:decide (qh<lo)=true:=decide_eq_true cc;clear cc;refine Ow hmix ?hno1 (by kernel_rfl) ?_
         case hno1=>rintro ⟨a,w,h⟩;exact h
         refine wpAny_of_held (S:=(fun z=>z.cell? ⟨lb,0,none⟩=some (.func (.func 68) #[] #[])∧z.cell? ⟨lb+1,0,none⟩=some (.func (.func 69) #[] #[])∧z.cell? ⟨w.heap.size,0,none⟩=some (.slice A0 l0.length c0)∧z.cell? ⟨wr.heap.size,0,none⟩=some (.int .i64 (Qs l1 (i:Int)).f0)∧z.cell? ⟨wr.heap.size,1,none⟩=some (.int .i64 (Qs l1 (i:Int)).f1))) _ _ _ _ ?_;change wpAnyH _ _ _ _ _ _ _ _ (World.drew _);refine wpAnyH_take (i:=0) (oi:={ dst:=some 57,op:=_,type:=_,pos:=_,after:=_,guard:=_ }) (v:=?vx2) rfl (by kernel_rfl) (by kernel_rfl) (by kernel_rfl) (fun _ _ _ h=>h) (Or.inl ⟨by rfl,?hyx2⟩) hS ?restx2
         case hyx2 =>
          intro z hz;obtain ⟨z1,z2,z3,z4,z5⟩:=hz
          go_simp
          try (with_reducible rfl)
         simp only [Act.put,List.setIfInBounds_toArray,List.set_cons_zero,List.set_cons_succ];refine wpAnyH_take (i:=1) (oi:={ dst:=some 58,op:=_,type:=_,pos:=_,after:=_,guard:=_ }) (v:=?vx3) rfl (by kernel_rfl) (by kernel_rfl) (by kernel_rfl) (fun _ _ _ h=>h) (Or.inl ⟨by rfl,?hyx3⟩) hS ?restx3
         case hyx3 =>
          intro z hz;obtain ⟨z1,z2,z3,z4,z5⟩:=hz
          go_simp
          try (with_reducible rfl)
         simp only [Act.put,List.setIfInBounds_toArray,List.set_cons_zero,List.set_cons_succ];refine wpAnyH_take (i:=2) (oi:={ dst:=some 59,op:=_,type:=_,pos:=_,after:=_,guard:=_ }) (v:=?vx4) rfl (by kernel_rfl) (by kernel_rfl) (by kernel_rfl) (fun _ _ _ h=>h) (Or.inl ⟨by rfl,?hyx4⟩) hS ?restx4
         case hyx4 =>
          intro z hz;obtain ⟨z1,z2,z3,z4,z5⟩:=hz
          go_simp
          try (with_reducible rfl)
         simp only [Act.put,List.setIfInBounds_toArray,List.set_cons_zero,List.set_cons_succ];refine wpAnyH_take (i:=3) (oi:={ dst:=some 60,op:=_,type:=_,pos:=_,after:=_,guard:=_ }) (v:=?vx5) rfl (by kernel_rfl) (by kernel_rfl) (by kernel_rfl) (fun _ _ _ h=>h) (Or.inl ⟨by rfl,?hyx5⟩) hS ?restx5
         case hyx5 =>
          intro z hz;obtain ⟨z1,z2,z3,z4,z5⟩:=hz
          go_simp
          try (with_reducible rfl)
         simp only [Act.put,List.setIfInBounds_toArray,List.set_cons_zero,List.set_cons_succ];refine wpAnyH_take (i:=5) (oi:={ dst:=some 62,op:=_,type:=_,pos:=_,after:=_,guard:=_ }) (v:=?vx6) rfl (by kernel_rfl) (by kernel_rfl) (by kernel_rfl) (fun _ _ _ h=>h) (Or.inl ⟨by rfl,?hyx6⟩) hS ?restx6
         case hyx6 =>
          intro z hz;obtain ⟨z1,z2,z3,z4,z5⟩:=hz
          go_simp
          try (with_reducible rfl)
         simp only [Act.put,List.setIfInBounds_toArray,List.set_cons_zero,List.set_cons_succ];refine wpAnyH_take (i:=6) (oi:={ dst:=some 63,op:=_,type:=_,pos:=_,after:=_,guard:=_ }) (v:=?vx7) rfl (by kernel_rfl) (by kernel_rfl) (by kernel_rfl) (fun _ _ _ h=>h) (Or.inl ⟨by rfl,?hyx7⟩) hS ?restx7
         case hyx7 =>
          intro z hz;obtain ⟨z1,z2,z3,z4,z5⟩:=hz
          go_simp
          try (with_reducible rfl)
         simp only [Act.put,List.setIfInBounds_toArray,List.set_cons_zero,List.set_cons_succ];refine wpAnyH_take (i:=7) (oi:={ dst:=some 64,op:=_,type:=_,pos:=_,after:=_,guard:=_ }) (v:=?vx8) rfl (by kernel_rfl) (by kernel_rfl) (by kernel_rfl) (fun _ _ _ h=>h) (Or.inl ⟨by rfl,?hyx8⟩) hS ?restx8
         case hyx8 =>
          intro z hz;obtain ⟨z1,z2,z3,z4,z5⟩:=hz
          go_simp
          try (with_reducible rfl)
         simp only [Act.put,List.setIfInBounds_toArray,List.set_cons_zero,List.set_cons_succ];refine wpAnyH_ready (rs:=[4]) (by kernel_rfl) (by simp) ?_;refine AllReadyH.cons (o:={ dst:=some 61,op:=.call { callee:=.value (.func 71),args:=#[.tmp 57,.tmp 58,.tmp 59,.tmp 60],argTypes:=#[104,37,31,3] },type:=3,pos:=_,after:=_,guard:=none }) rfl (fun K hK => ?_) AllReadyH.nil;refine Kv Try.func71 (by kernel_rfl) rfl #[.agg #[.func (.func 68) #[] #[]],.slice Ax x.length cx,.slice A0 l0.length c0,.int .i64 (i:Int)] (by rfl) rfl rfl (by (try simp only [List.map_toArray,List.map_cons,List.map_nil]);first|done|rfl) ?_;refine (QG.calls k 0 Ax cx x A0 c0 l0 (i:Int) lo _ ?q1w18 hcx ?q2w18 HC0.out HLO.out).mono ?_
         case q1w18=>exact Kd.C_below HCX.out (Yl HBe.out)
         case q2w18=>exact Kd.C_below HR0.out (HI.out.bx.below.trans ((Yl HBe.out).mono hww))
         rintro e w1 ⟨rfl,qcP⟩;refine ⟨_,rfl,?_⟩;have qaQ:=Q0.mk (show Below W.heap.size W w1 from (Yl HBe.out).trans (qcP.mono (Yl HBe.out).size));have hS1:=(show _ from hSb w1 ((show Below We.heap.size We w1 from (Yl (Below.refl We.heap.size We)).trans (qcP.mono ((Yl (Below.refl We.heap.size We)).size)))));clear hS;refine hK.out _ _ hS1 (fun hS => ?_);simp only [Act.put,List.setIfInBounds_toArray,List.set_cons_zero,List.set_cons_succ];refine wpAnyH_take (i:=8) (oi:={ dst:=some 65,op:=_,type:=_,pos:=_,after:=_,guard:=_ }) (v:=?vx9) rfl (by kernel_rfl) (by kernel_rfl) (by kernel_rfl) (fun _ _ _ h=>h) (Or.inl ⟨by rfl,?hyx9⟩) hS ?restx9
         case hyx9 =>
          intro z hz;obtain ⟨z1,z2,z3,z4,z5⟩:=hz
          go_simp
          try (with_reducible rfl)
         simp only [Act.put,List.setIfInBounds_toArray,List.set_cons_zero,List.set_cons_succ];refine wpAnyH_take (i:=9) (oi:={ dst:=some 66,op:=_,type:=_,pos:=_,after:=_,guard:=_ }) (v:=?vx10) rfl (by kernel_rfl) (by kernel_rfl) (by kernel_rfl) (fun _ _ _ h=>h) (Or.inl ⟨by rfl,?hyx10⟩) hS ?restx10
         case hyx10 =>
          intro z hz;obtain ⟨z1,z2,z3,z4,z5⟩:=hz
          go_simp
          try (with_reducible rfl)
         simp only [Act.put,List.setIfInBounds_toArray,List.set_cons_zero,List.set_cons_succ];refine wpAnyH_take (i:=10) (oi:={ dst:=some 67,op:=_,type:=_,pos:=_,after:=_,guard:=_ }) (v:=undef) rfl (by kernel_rfl) (by kernel_rfl) (by kernel_rfl) (fun _ _ _ h=>h) (Or.inr ⟨by rfl,rfl⟩) hS ?_;simp only [Act.put,List.setIfInBounds_toArray,List.set_cons_zero,List.set_cons_succ];refine wpAnyH_take (i:=11) (oi:={ dst:=some 68,op:=_,type:=_,pos:=_,after:=_,guard:=_ }) (v:=undef) rfl (by kernel_rfl) (by kernel_rfl) (by kernel_rfl) (fun _ _ _ h=>h) (Or.inr ⟨by rfl,rfl⟩) hS ?_;simp only [Act.put,List.setIfInBounds_toArray,List.set_cons_zero,List.set_cons_succ];refine wpAnyH_take (i:=12) (oi:={ dst:=some 69,op:=_,type:=_,pos:=_,after:=_,guard:=_ }) (v:=undef) rfl (by kernel_rfl) (by kernel_rfl) (by kernel_rfl) (fun _ _ _ h=>h) (Or.inr ⟨by rfl,rfl⟩) hS ?_;simp only [Act.put,List.setIfInBounds_toArray,List.set_cons_zero,List.set_cons_succ];refine wpAnyH_take (i:=13) (oi:={ dst:=some 70,op:=_,type:=_,pos:=_,after:=_,guard:=_ }) (v:=undef) rfl (by kernel_rfl) (by kernel_rfl) (by kernel_rfl) (fun _ _ _ h=>h) (Or.inr ⟨by rfl,rfl⟩) hS ?_;simp only [Act.put,List.setIfInBounds_toArray,List.set_cons_zero,List.set_cons_succ];refine wpAnyH_take (i:=14) (oi:={ dst:=some 71,op:=_,type:=_,pos:=_,after:=_,guard:=_ }) (v:=undef) rfl (by kernel_rfl) (by kernel_rfl) (by kernel_rfl) (fun _ _ _ h=>h) (Or.inr ⟨by rfl,rfl⟩) hS ?_;simp only [Act.put,List.setIfInBounds_toArray,List.set_cons_zero,List.set_cons_succ];refine wpAnyH_take (i:=15) (oi:={ dst:=some 72,op:=_,type:=_,pos:=_,after:=_,guard:=_ }) (v:=undef) rfl (by kernel_rfl) (by kernel_rfl) (by kernel_rfl) (fun _ _ _ h=>h) (Or.inr ⟨by rfl,rfl⟩) hS ?_;simp only [Act.put,List.setIfInBounds_toArray,List.set_cons_zero,List.set_cons_succ];refine wpAnyH_take (i:=16) (oi:={ dst:=some 73,op:=_,type:=_,pos:=_,after:=_,guard:=_ }) (v:=undef) rfl (by kernel_rfl) (by kernel_rfl) (by kernel_rfl) (fun _ _ _ h=>h) (Or.inr ⟨by rfl,rfl⟩) hS ?_;simp only [Act.put,List.setIfInBounds_toArray,List.set_cons_zero,List.set_cons_succ];refine wpAnyH_take (i:=17) (oi:={ dst:=some 74,op:=_,type:=_,pos:=_,after:=_,guard:=_ }) (v:=undef) rfl (by kernel_rfl) (by kernel_rfl) (by kernel_rfl) (fun _ _ _ h=>h) (Or.inr ⟨by rfl,rfl⟩) hS ?_;simp only [Act.put,List.setIfInBounds_toArray,List.set_cons_zero,List.set_cons_succ];refine wpAnyH_take (i:=18) (oi:={ dst:=some 75,op:=_,type:=_,pos:=_,after:=_,guard:=_ }) (v:=undef) rfl (by kernel_rfl) (by kernel_rfl) (by kernel_rfl) (fun _ _ _ h=>h) (Or.inr ⟨by rfl,rfl⟩) hS ?_;simp only [Act.put,List.setIfInBounds_toArray,List.set_cons_zero,List.set_cons_succ];refine wpAnyH_take (i:=19) (oi:={ dst:=some 76,op:=_,type:=_,pos:=_,after:=_,guard:=_ }) (v:=?vx20) rfl (by kernel_rfl) (by kernel_rfl) (by kernel_rfl) (fun _ _ _ h=>h) (Or.inl ⟨by rfl,?hyx20⟩) hS ?restx20
         case hyx20 =>
          intro z hz;obtain ⟨z1,z2,z3,z4,z5⟩:=hz
          go_simp
          try (with_reducible rfl)
         simp only [Act.put,List.setIfInBounds_toArray,List.set_cons_zero,List.set_cons_succ];refine wpAnyH_done (by kernel_rfl) ?_ _
         gi_wp2
         exact ⟨(Kw (Bl:=lb+4) (B:=lb+3) qaQ.out).1,(Kw (Bl:=lb+4) (B:=lb+3) qaQ.out).2,HI.out.same qaQ.out (fun o ho=>by rw [HST.out,← ho,HALL.out];rfl)⟩
        ·
         rw [if_neg cc] at hlo2;have ccb:decide (qh<lo)=false:=decide_eq_false cc;clear cc;obtain ⟨hi2,hhi1,hhi2⟩:=Option.bind_eq_some_iff.1 hlo2;have HHI:=Q0.mk hhi1;clear hhi1 hlo2
         by_cases dd:hi2<ql
         ·
          obtain rfl:false=bb:=by rw [if_pos dd] at hhi2;exact Option.some.inj hhi2
          clear hhi2;have ddb:decide (hi2<ql)=true:=decide_eq_true dd;clear dd;refine Ow hmix ?hno21 (by kernel_rfl) ?_
          case hno21=>rintro ⟨a,w,h⟩;exact h
          refine wpAny_of_held (S:=(fun z=>z.cell? ⟨lb,0,none⟩=some (.func (.func 68) #[] #[])∧z.cell? ⟨lb+1,0,none⟩=some (.func (.func 69) #[] #[])∧z.cell? ⟨w.heap.size,0,none⟩=some (.slice A0 l0.length c0)∧z.cell? ⟨wr.heap.size,0,none⟩=some (.int .i64 (Qs l1 (i:Int)).f0)∧z.cell? ⟨wr.heap.size,1,none⟩=some (.int .i64 (Qs l1 (i:Int)).f1))) _ _ _ _ ?_;change wpAnyH _ _ _ _ _ _ _ _ (World.drew _);refine wpAnyH_take (i:=0) (oi:={ dst:=some 57,op:=_,type:=_,pos:=_,after:=_,guard:=_ }) (v:=?vx22) rfl (by kernel_rfl) (by kernel_rfl) (by kernel_rfl) (fun _ _ _ h=>h) (Or.inl ⟨by rfl,?hyx22⟩) hS ?restx22
          case hyx22 =>
           intro z hz;obtain ⟨z1,z2,z3,z4,z5⟩:=hz
           go_simp
           try (with_reducible rfl)
          simp only [Act.put,List.setIfInBounds_toArray,List.set_cons_zero,List.set_cons_succ];refine wpAnyH_take (i:=1) (oi:={ dst:=some 58,op:=_,type:=_,pos:=_,after:=_,guard:=_ }) (v:=?vx23) rfl (by kernel_rfl) (by kernel_rfl) (by kernel_rfl) (fun _ _ _ h=>h) (Or.inl ⟨by rfl,?hyx23⟩) hS ?restx23
          case hyx23 =>
           intro z hz;obtain ⟨z1,z2,z3,z4,z5⟩:=hz
           go_simp
           try (with_reducible rfl)
          simp only [Act.put,List.setIfInBounds_toArray,List.set_cons_zero,List.set_cons_succ];refine wpAnyH_take (i:=2) (oi:={ dst:=some 59,op:=_,type:=_,pos:=_,after:=_,guard:=_ }) (v:=?vx24) rfl (by kernel_rfl) (by kernel_rfl) (by kernel_rfl) (fun _ _ _ h=>h) (Or.inl ⟨by rfl,?hyx24⟩) hS ?restx24
          case hyx24 =>
           intro z hz;obtain ⟨z1,z2,z3,z4,z5⟩:=hz
           go_simp
           try (with_reducible rfl)
          simp only [Act.put,List.setIfInBounds_toArray,List.set_cons_zero,List.set_cons_succ];refine wpAnyH_take (i:=3) (oi:={ dst:=some 60,op:=_,type:=_,pos:=_,after:=_,guard:=_ }) (v:=?vx25) rfl (by kernel_rfl) (by kernel_rfl) (by kernel_rfl) (fun _ _ _ h=>h) (Or.inl ⟨by rfl,?hyx25⟩) hS ?restx25
          case hyx25 =>
           intro z hz;obtain ⟨z1,z2,z3,z4,z5⟩:=hz
           go_simp
           try (with_reducible rfl)
          simp only [Act.put,List.setIfInBounds_toArray,List.set_cons_zero,List.set_cons_succ];refine wpAnyH_take (i:=5) (oi:={ dst:=some 62,op:=_,type:=_,pos:=_,after:=_,guard:=_ }) (v:=?vx26) rfl (by kernel_rfl) (by kernel_rfl) (by kernel_rfl) (fun _ _ _ h=>h) (Or.inl ⟨by rfl,?hyx26⟩) hS ?restx26
          case hyx26 =>
           intro z hz;obtain ⟨z1,z2,z3,z4,z5⟩:=hz
           go_simp
           try (with_reducible rfl)
          simp only [Act.put,List.setIfInBounds_toArray,List.set_cons_zero,List.set_cons_succ];refine wpAnyH_take (i:=6) (oi:={ dst:=some 63,op:=_,type:=_,pos:=_,after:=_,guard:=_ }) (v:=?vx27) rfl (by kernel_rfl) (by kernel_rfl) (by kernel_rfl) (fun _ _ _ h=>h) (Or.inl ⟨by rfl,?hyx27⟩) hS ?restx27
          case hyx27 =>
           intro z hz;obtain ⟨z1,z2,z3,z4,z5⟩:=hz
           go_simp
           try (with_reducible rfl)
          simp only [Act.put,List.setIfInBounds_toArray,List.set_cons_zero,List.set_cons_succ];refine wpAnyH_take (i:=7) (oi:={ dst:=some 64,op:=_,type:=_,pos:=_,after:=_,guard:=_ }) (v:=?vx28) rfl (by kernel_rfl) (by kernel_rfl) (by kernel_rfl) (fun _ _ _ h=>h) (Or.inl ⟨by rfl,?hyx28⟩) hS ?restx28
          case hyx28 =>
           intro z hz;obtain ⟨z1,z2,z3,z4,z5⟩:=hz
           go_simp
           try (with_reducible rfl)
          simp only [Act.put,List.setIfInBounds_toArray,List.set_cons_zero,List.set_cons_succ];refine wpAnyH_ready (rs:=[4]) (by kernel_rfl) (by simp) ?_;refine AllReadyH.cons (o:={ dst:=some 61,op:=.call { callee:=.value (.func 71),args:=#[.tmp 57,.tmp 58,.tmp 59,.tmp 60],argTypes:=#[104,37,31,3] },type:=3,pos:=_,after:=_,guard:=none }) rfl (fun K hK => ?_) AllReadyH.nil;refine Kv Try.func71 (by kernel_rfl) rfl #[.agg #[.func (.func 68) #[] #[]],.slice Ax x.length cx,.slice A0 l0.length c0,.int .i64 (i:Int)] (by rfl) rfl rfl (by (try simp only [List.map_toArray,List.map_cons,List.map_nil]);first|done|rfl) ?_;refine (QG.calls k 0 Ax cx x A0 c0 l0 (i:Int) lo _ ?q1w128 hcx ?q2w128 HC0.out HLO.out).mono ?_
          case q1w128=>exact Kd.C_below HCX.out (Yl HBe.out)
          case q2w128=>exact Kd.C_below HR0.out (HI.out.bx.below.trans ((Yl HBe.out).mono hww))
          rintro e w1 ⟨rfl,qcP⟩;refine ⟨_,rfl,?_⟩;have qaQ:=Q0.mk (show Below W.heap.size W w1 from (Yl HBe.out).trans (qcP.mono (Yl HBe.out).size));have hS1:=(show _ from hSb w1 ((show Below We.heap.size We w1 from (Yl (Below.refl We.heap.size We)).trans (qcP.mono ((Yl (Below.refl We.heap.size We)).size)))));clear hS;refine hK.out _ _ hS1 (fun hS => ?_);simp only [Act.put,List.setIfInBounds_toArray,List.set_cons_zero,List.set_cons_succ];refine wpAnyH_take (i:=8) (oi:={ dst:=some 65,op:=_,type:=_,pos:=_,after:=_,guard:=_ }) (v:=?vx29) rfl (by kernel_rfl) (by kernel_rfl) (by kernel_rfl) (fun _ _ _ h=>h) (Or.inl ⟨by rfl,?hyx29⟩) hS ?restx29
          case hyx29 =>
           intro z hz;obtain ⟨z1,z2,z3,z4,z5⟩:=hz
           go_simp
           try (with_reducible rfl)
          simp only [Act.put,List.setIfInBounds_toArray,List.set_cons_zero,List.set_cons_succ];refine wpAnyH_take (i:=9) (oi:={ dst:=some 66,op:=_,type:=_,pos:=_,after:=_,guard:=_ }) (v:=?vx30) rfl (by kernel_rfl) (by kernel_rfl) (by kernel_rfl) (fun _ _ _ h=>h) (Or.inl ⟨by rfl,?hyx30⟩) hS ?restx30
          case hyx30 =>
           intro z hz;obtain ⟨z1,z2,z3,z4,z5⟩:=hz
           go_simp
           try (with_reducible rfl)
          simp only [Act.put,List.setIfInBounds_toArray,List.set_cons_zero,List.set_cons_succ];refine wpAnyH_take (i:=10) (oi:={ dst:=some 67,op:=_,type:=_,pos:=_,after:=_,guard:=_ }) (v:=?vx31) rfl (by kernel_rfl) (by kernel_rfl) (by kernel_rfl) (fun _ _ _ h=>h) (Or.inl ⟨by rfl,?hyx31⟩) hS ?restx31
          case hyx31 =>
           intro z hz;obtain ⟨z1,z2,z3,z4,z5⟩:=hz
           go_simp
           try (with_reducible rfl)
          simp only [Act.put,List.setIfInBounds_toArray,List.set_cons_zero,List.set_cons_succ];refine wpAnyH_take (i:=11) (oi:={ dst:=some 68,op:=_,type:=_,pos:=_,after:=_,guard:=_ }) (v:=?vx32) rfl (by kernel_rfl) (by kernel_rfl) (by kernel_rfl) (fun _ _ _ h=>h) (Or.inl ⟨by rfl,?hyx32⟩) hS ?restx32
          case hyx32 =>
           intro z hz;obtain ⟨z1,z2,z3,z4,z5⟩:=hz
           go_simp
           try (with_reducible rfl)
          simp only [Act.put,List.setIfInBounds_toArray,List.set_cons_zero,List.set_cons_succ];refine wpAnyH_take (i:=12) (oi:={ dst:=some 69,op:=_,type:=_,pos:=_,after:=_,guard:=_ }) (v:=?vx33) rfl (by kernel_rfl) (by kernel_rfl) (by kernel_rfl) (fun _ _ _ h=>h) (Or.inl ⟨by rfl,?hyx33⟩) hS ?restx33
          case hyx33 =>
           intro z hz;obtain ⟨z1,z2,z3,z4,z5⟩:=hz
           go_simp
           try (with_reducible rfl)
          simp only [Act.put,List.setIfInBounds_toArray,List.set_cons_zero,List.set_cons_succ];refine wpAnyH_take (i:=13) (oi:={ dst:=some 70,op:=_,type:=_,pos:=_,after:=_,guard:=_ }) (v:=?vx34) rfl (by kernel_rfl) (by kernel_rfl) (by kernel_rfl) (fun _ _ _ h=>h) (Or.inl ⟨by rfl,?hyx34⟩) hS ?restx34
          case hyx34 =>
           intro z hz;obtain ⟨z1,z2,z3,z4,z5⟩:=hz
           go_simp
           try (with_reducible rfl)
          simp only [Act.put,List.setIfInBounds_toArray,List.set_cons_zero,List.set_cons_succ];refine wpAnyH_take (i:=15) (oi:={ dst:=some 72,op:=_,type:=_,pos:=_,after:=_,guard:=_ }) (v:=?vx35) rfl (by kernel_rfl) (by kernel_rfl) (by kernel_rfl) (fun _ _ _ h=>h) (Or.inl ⟨by rfl,?hyx35⟩) hS ?restx35
          case hyx35 =>
           intro z hz;obtain ⟨z1,z2,z3,z4,z5⟩:=hz
           go_simp
           try (with_reducible rfl)
          simp only [Act.put,List.setIfInBounds_toArray,List.set_cons_zero,List.set_cons_succ];refine wpAnyH_take (i:=16) (oi:={ dst:=some 73,op:=_,type:=_,pos:=_,after:=_,guard:=_ }) (v:=?vx36) rfl (by kernel_rfl) (by kernel_rfl) (by kernel_rfl) (fun _ _ _ h=>h) (Or.inl ⟨by rfl,?hyx36⟩) hS ?restx36
          case hyx36 =>
           intro z hz;obtain ⟨z1,z2,z3,z4,z5⟩:=hz
           go_simp
           try (with_reducible rfl)
          simp only [Act.put,List.setIfInBounds_toArray,List.set_cons_zero,List.set_cons_succ];refine wpAnyH_take (i:=17) (oi:={ dst:=some 74,op:=_,type:=_,pos:=_,after:=_,guard:=_ }) (v:=?vx37) rfl (by kernel_rfl) (by kernel_rfl) (by kernel_rfl) (fun _ _ _ h=>h) (Or.inl ⟨by rfl,?hyx37⟩) hS ?restx37
          case hyx37 =>
           intro z hz;obtain ⟨z1,z2,z3,z4,z5⟩:=hz
           go_simp
           try (with_reducible rfl)
          simp only [Act.put,List.setIfInBounds_toArray,List.set_cons_zero,List.set_cons_succ];have hbX:=(Yl (Below.refl We.heap.size We)).trans (qcP.mono (Nat.le_refl We.heap.size));refine wpAnyH_ready (rs:=[14]) (by kernel_rfl) (by simp) ?_;refine AllReadyH.cons (o:={ dst:=some 71,op:=.call { callee:=.value (.func 71),args:=#[.tmp 67,.tmp 68,.tmp 69,.tmp 70],argTypes:=#[104,37,31,3] },type:=3,pos:=_,after:=_,guard:=some (9,false) }) rfl (fun K hK => ?_) AllReadyH.nil;refine Kv Try.func71 (by kernel_rfl) rfl #[.agg #[.func (.func 69) #[] #[]],.slice Ax x.length cx,.slice A0 l0.length c0,.int .i64 (i:Int)] (by rfl) rfl rfl (by (try simp only [List.map_toArray,List.map_cons,List.map_nil]);first|done|rfl) ?_;refine (QB.calls k 0 Ax cx x A0 c0 l0 (i:Int) hi2 _ ?q1w237 hcx ?q2w237 HC0.out HHI.out).mono ?_
          case q1w237=>exact Kd.C_below HCX.out qaQ.out
          case q2w237=>exact Kd.C_below HR0.out (HI.out.bx.below.trans (qaQ.out.mono hww))
          rintro e w2 ⟨rfl,hbw2⟩;refine ⟨_,rfl,?_⟩;have qkr:=Q0.mk (show Below W.heap.size W w2 from qaQ.out.trans (hbw2.mono qaQ.out.size));have hS1:=(show _ from hSb w2 ((show Below We.heap.size We w2 from hbX.trans (hbw2.mono (hbX.size)))));clear hS;refine hK.out _ _ hS1 (fun hS => ?_);simp only [Act.put,List.setIfInBounds_toArray,List.set_cons_zero,List.set_cons_succ];refine wpAnyH_take (i:=18) (oi:={ dst:=some 75,op:=_,type:=_,pos:=_,after:=_,guard:=_ }) (v:=?vx38) rfl (by kernel_rfl) (by kernel_rfl) (by kernel_rfl) (fun _ _ _ h=>h) (Or.inl ⟨by rfl,?hyx38⟩) hS ?restx38
          case hyx38 =>
           intro z hz;obtain ⟨z1,z2,z3,z4,z5⟩:=hz
           go_simp
           try (with_reducible rfl)
          simp only [Act.put,List.setIfInBounds_toArray,List.set_cons_zero,List.set_cons_succ];refine wpAnyH_take (i:=19) (oi:={ dst:=some 76,op:=_,type:=_,pos:=_,after:=_,guard:=_ }) (v:=?vx39) rfl (by kernel_rfl) (by kernel_rfl) (by kernel_rfl) (fun _ _ _ h=>h) (Or.inl ⟨by rfl,?hyx39⟩) hS ?restx39
          case hyx39 =>
           intro z hz;obtain ⟨z1,z2,z3,z4,z5⟩:=hz
           go_simp
           try (with_reducible rfl)
          simp only [Act.put,List.setIfInBounds_toArray,List.set_cons_zero,List.set_cons_succ];refine wpAnyH_done (by kernel_rfl) ?_ _
          gi_wp2
          exact ⟨(Kw (Bl:=lb+4) (B:=lb+3) qkr.out).1,(Kw (Bl:=lb+4) (B:=lb+3) qkr.out).2,HI.out.same qkr.out (fun o ho=>by rw [HST.out,← ho,HALL.out];rfl)⟩
         ·
          rw [if_neg dd] at hhi2;have HA2:=Q0.mk hhi2;have ddb:decide (hi2<ql)=false:=decide_eq_false dd;clear dd hhi2;refine Ow hmix ?hno40 (by kernel_rfl) ?_
          case hno40=>rintro ⟨a,w,h⟩;exact h
          refine wpAny_of_held (S:=(fun z=>z.cell? ⟨lb,0,none⟩=some (.func (.func 68) #[] #[])∧z.cell? ⟨lb+1,0,none⟩=some (.func (.func 69) #[] #[])∧z.cell? ⟨w.heap.size,0,none⟩=some (.slice A0 l0.length c0)∧z.cell? ⟨wr.heap.size,0,none⟩=some (.int .i64 (Qs l1 (i:Int)).f0)∧z.cell? ⟨wr.heap.size,1,none⟩=some (.int .i64 (Qs l1 (i:Int)).f1))) _ _ _ _ ?_;change wpAnyH _ _ _ _ _ _ _ _ (World.drew _);refine wpAnyH_take (i:=0) (oi:={ dst:=some 57,op:=_,type:=_,pos:=_,after:=_,guard:=_ }) (v:=?vx41) rfl (by kernel_rfl) (by kernel_rfl) (by kernel_rfl) (fun _ _ _ h=>h) (Or.inl ⟨by rfl,?hyx41⟩) hS ?restx41
          case hyx41 =>
           intro z hz;obtain ⟨z1,z2,z3,z4,z5⟩:=hz
           go_simp
           try (with_reducible rfl)
          simp only [Act.put,List.setIfInBounds_toArray,List.set_cons_zero,List.set_cons_succ];refine wpAnyH_take (i:=1) (oi:={ dst:=some 58,op:=_,type:=_,pos:=_,after:=_,guard:=_ }) (v:=?vx42) rfl (by kernel_rfl) (by kernel_rfl) (by kernel_rfl) (fun _ _ _ h=>h) (Or.inl ⟨by rfl,?hyx42⟩) hS ?restx42
          case hyx42 =>
           intro z hz;obtain ⟨z1,z2,z3,z4,z5⟩:=hz
           go_simp
           try (with_reducible rfl)
          simp only [Act.put,List.setIfInBounds_toArray,List.set_cons_zero,List.set_cons_succ];refine wpAnyH_take (i:=2) (oi:={ dst:=some 59,op:=_,type:=_,pos:=_,after:=_,guard:=_ }) (v:=?vx43) rfl (by kernel_rfl) (by kernel_rfl) (by kernel_rfl) (fun _ _ _ h=>h) (Or.inl ⟨by rfl,?hyx43⟩) hS ?restx43
          case hyx43 =>
           intro z hz;obtain ⟨z1,z2,z3,z4,z5⟩:=hz
           go_simp
           try (with_reducible rfl)
          simp only [Act.put,List.setIfInBounds_toArray,List.set_cons_zero,List.set_cons_succ];refine wpAnyH_take (i:=3) (oi:={ dst:=some 60,op:=_,type:=_,pos:=_,after:=_,guard:=_ }) (v:=?vx44) rfl (by kernel_rfl) (by kernel_rfl) (by kernel_rfl) (fun _ _ _ h=>h) (Or.inl ⟨by rfl,?hyx44⟩) hS ?restx44
          case hyx44 =>
           intro z hz;obtain ⟨z1,z2,z3,z4,z5⟩:=hz
           go_simp
           try (with_reducible rfl)
          simp only [Act.put,List.setIfInBounds_toArray,List.set_cons_zero,List.set_cons_succ];refine wpAnyH_take (i:=5) (oi:={ dst:=some 62,op:=_,type:=_,pos:=_,after:=_,guard:=_ }) (v:=?vx45) rfl (by kernel_rfl) (by kernel_rfl) (by kernel_rfl) (fun _ _ _ h=>h) (Or.inl ⟨by rfl,?hyx45⟩) hS ?restx45
          case hyx45 =>
           intro z hz;obtain ⟨z1,z2,z3,z4,z5⟩:=hz
           go_simp
           try (with_reducible rfl)
          simp only [Act.put,List.setIfInBounds_toArray,List.set_cons_zero,List.set_cons_succ];refine wpAnyH_take (i:=6) (oi:={ dst:=some 63,op:=_,type:=_,pos:=_,after:=_,guard:=_ }) (v:=?vx46) rfl (by kernel_rfl) (by kernel_rfl) (by kernel_rfl) (fun _ _ _ h=>h) (Or.inl ⟨by rfl,?hyx46⟩) hS ?restx46
          case hyx46 =>
           intro z hz;obtain ⟨z1,z2,z3,z4,z5⟩:=hz
           go_simp
           try (with_reducible rfl)
          simp only [Act.put,List.setIfInBounds_toArray,List.set_cons_zero,List.set_cons_succ];refine wpAnyH_take (i:=7) (oi:={ dst:=some 64,op:=_,type:=_,pos:=_,after:=_,guard:=_ }) (v:=?vx47) rfl (by kernel_rfl) (by kernel_rfl) (by kernel_rfl) (fun _ _ _ h=>h) (Or.inl ⟨by rfl,?hyx47⟩) hS ?restx47
          case hyx47 =>
           intro z hz;obtain ⟨z1,z2,z3,z4,z5⟩:=hz
           go_simp
           try (with_reducible rfl)
          simp only [Act.put,List.setIfInBounds_toArray,List.set_cons_zero,List.set_cons_succ];refine wpAnyH_ready (rs:=[4]) (by kernel_rfl) (by simp) ?_;refine AllReadyH.cons (o:={ dst:=some 61,op:=.call { callee:=.value (.func 71),args:=#[.tmp 57,.tmp 58,.tmp 59,.tmp 60],argTypes:=#[104,37,31,3] },type:=3,pos:=_,after:=_,guard:=none }) rfl (fun K hK => ?_) AllReadyH.nil;refine Kv Try.func71 (by kernel_rfl) rfl #[.agg #[.func (.func 68) #[] #[]],.slice Ax x.length cx,.slice A0 l0.length c0,.int .i64 (i:Int)] (by rfl) rfl rfl (by (try simp only [List.map_toArray,List.map_cons,List.map_nil]);first|done|rfl) ?_;refine (QG.calls k 0 Ax cx x A0 c0 l0 (i:Int) lo _ ?q1w147 hcx ?q2w147 HC0.out HLO.out).mono ?_
          case q1w147=>exact Kd.C_below HCX.out (Yl HBe.out)
          case q2w147=>exact Kd.C_below HR0.out (HI.out.bx.below.trans ((Yl HBe.out).mono hww))
          rintro e w1 ⟨rfl,qcP⟩;refine ⟨_,rfl,?_⟩;have qaQ:=Q0.mk (show Below W.heap.size W w1 from (Yl HBe.out).trans (qcP.mono (Yl HBe.out).size));have hS1:=(show _ from hSb w1 ((show Below We.heap.size We w1 from (Yl (Below.refl We.heap.size We)).trans (qcP.mono ((Yl (Below.refl We.heap.size We)).size)))));clear hS;refine hK.out _ _ hS1 (fun hS => ?_);simp only [Act.put,List.setIfInBounds_toArray,List.set_cons_zero,List.set_cons_succ];refine wpAnyH_take (i:=8) (oi:={ dst:=some 65,op:=_,type:=_,pos:=_,after:=_,guard:=_ }) (v:=?vx48) rfl (by kernel_rfl) (by kernel_rfl) (by kernel_rfl) (fun _ _ _ h=>h) (Or.inl ⟨by rfl,?hyx48⟩) hS ?restx48
          case hyx48 =>
           intro z hz;obtain ⟨z1,z2,z3,z4,z5⟩:=hz
           go_simp
           try (with_reducible rfl)
          simp only [Act.put,List.setIfInBounds_toArray,List.set_cons_zero,List.set_cons_succ];refine wpAnyH_take (i:=9) (oi:={ dst:=some 66,op:=_,type:=_,pos:=_,after:=_,guard:=_ }) (v:=?vx49) rfl (by kernel_rfl) (by kernel_rfl) (by kernel_rfl) (fun _ _ _ h=>h) (Or.inl ⟨by rfl,?hyx49⟩) hS ?restx49
          case hyx49 =>
           intro z hz;obtain ⟨z1,z2,z3,z4,z5⟩:=hz
           go_simp
           try (with_reducible rfl)
          simp only [Act.put,List.setIfInBounds_toArray,List.set_cons_zero,List.set_cons_succ];refine wpAnyH_take (i:=10) (oi:={ dst:=some 67,op:=_,type:=_,pos:=_,after:=_,guard:=_ }) (v:=?vx50) rfl (by kernel_rfl) (by kernel_rfl) (by kernel_rfl) (fun _ _ _ h=>h) (Or.inl ⟨by rfl,?hyx50⟩) hS ?restx50
          case hyx50 =>
           intro z hz;obtain ⟨z1,z2,z3,z4,z5⟩:=hz
           go_simp
           try (with_reducible rfl)
          simp only [Act.put,List.setIfInBounds_toArray,List.set_cons_zero,List.set_cons_succ];refine wpAnyH_take (i:=11) (oi:={ dst:=some 68,op:=_,type:=_,pos:=_,after:=_,guard:=_ }) (v:=?vx51) rfl (by kernel_rfl) (by kernel_rfl) (by kernel_rfl) (fun _ _ _ h=>h) (Or.inl ⟨by rfl,?hyx51⟩) hS ?restx51
          case hyx51 =>
           intro z hz;obtain ⟨z1,z2,z3,z4,z5⟩:=hz
           go_simp
           try (with_reducible rfl)
          simp only [Act.put,List.setIfInBounds_toArray,List.set_cons_zero,List.set_cons_succ];refine wpAnyH_take (i:=12) (oi:={ dst:=some 69,op:=_,type:=_,pos:=_,after:=_,guard:=_ }) (v:=?vx52) rfl (by kernel_rfl) (by kernel_rfl) (by kernel_rfl) (fun _ _ _ h=>h) (Or.inl ⟨by rfl,?hyx52⟩) hS ?restx52
          case hyx52 =>
           intro z hz;obtain ⟨z1,z2,z3,z4,z5⟩:=hz
           go_simp
           try (with_reducible rfl)
          simp only [Act.put,List.setIfInBounds_toArray,List.set_cons_zero,List.set_cons_succ];refine wpAnyH_take (i:=13) (oi:={ dst:=some 70,op:=_,type:=_,pos:=_,after:=_,guard:=_ }) (v:=?vx53) rfl (by kernel_rfl) (by kernel_rfl) (by kernel_rfl) (fun _ _ _ h=>h) (Or.inl ⟨by rfl,?hyx53⟩) hS ?restx53
          case hyx53 =>
           intro z hz;obtain ⟨z1,z2,z3,z4,z5⟩:=hz
           go_simp
           try (with_reducible rfl)
          simp only [Act.put,List.setIfInBounds_toArray,List.set_cons_zero,List.set_cons_succ];refine wpAnyH_take (i:=15) (oi:={ dst:=some 72,op:=_,type:=_,pos:=_,after:=_,guard:=_ }) (v:=?vx54) rfl (by kernel_rfl) (by kernel_rfl) (by kernel_rfl) (fun _ _ _ h=>h) (Or.inl ⟨by rfl,?hyx54⟩) hS ?restx54
          case hyx54 =>
           intro z hz;obtain ⟨z1,z2,z3,z4,z5⟩:=hz
           go_simp
           try (with_reducible rfl)
          simp only [Act.put,List.setIfInBounds_toArray,List.set_cons_zero,List.set_cons_succ];refine wpAnyH_take (i:=16) (oi:={ dst:=some 73,op:=_,type:=_,pos:=_,after:=_,guard:=_ }) (v:=?vx55) rfl (by kernel_rfl) (by kernel_rfl) (by kernel_rfl) (fun _ _ _ h=>h) (Or.inl ⟨by rfl,?hyx55⟩) hS ?restx55
          case hyx55 =>
           intro z hz;obtain ⟨z1,z2,z3,z4,z5⟩:=hz
           go_simp
           try (with_reducible rfl)
          simp only [Act.put,List.setIfInBounds_toArray,List.set_cons_zero,List.set_cons_succ];refine wpAnyH_take (i:=17) (oi:={ dst:=some 74,op:=_,type:=_,pos:=_,after:=_,guard:=_ }) (v:=?vx56) rfl (by kernel_rfl) (by kernel_rfl) (by kernel_rfl) (fun _ _ _ h=>h) (Or.inl ⟨by rfl,?hyx56⟩) hS ?restx56
          case hyx56 =>
           intro z hz;obtain ⟨z1,z2,z3,z4,z5⟩:=hz
           go_simp
           try (with_reducible rfl)
          simp only [Act.put,List.setIfInBounds_toArray,List.set_cons_zero,List.set_cons_succ];have hbX:=(Yl (Below.refl We.heap.size We)).trans (qcP.mono (Nat.le_refl We.heap.size));refine wpAnyH_ready (rs:=[14]) (by kernel_rfl) (by simp) ?_;refine AllReadyH.cons (o:={ dst:=some 71,op:=.call { callee:=.value (.func 71),args:=#[.tmp 67,.tmp 68,.tmp 69,.tmp 70],argTypes:=#[104,37,31,3] },type:=3,pos:=_,after:=_,guard:=some (9,false) }) rfl (fun K hK => ?_) AllReadyH.nil;refine Kv Try.func71 (by kernel_rfl) rfl #[.agg #[.func (.func 69) #[] #[]],.slice Ax x.length cx,.slice A0 l0.length c0,.int .i64 (i:Int)] (by rfl) rfl rfl (by (try simp only [List.map_toArray,List.map_cons,List.map_nil]);first|done|rfl) ?_;refine (QB.calls k 0 Ax cx x A0 c0 l0 (i:Int) hi2 _ ?q1w256 hcx ?q2w256 HC0.out HHI.out).mono ?_
          case q1w256=>exact Kd.C_below HCX.out qaQ.out
          case q2w256=>exact Kd.C_below HR0.out (HI.out.bx.below.trans (qaQ.out.mono hww))
          rintro e w2 ⟨rfl,hbw2⟩;refine ⟨_,rfl,?_⟩;have qkr:=Q0.mk (show Below W.heap.size W w2 from qaQ.out.trans (hbw2.mono qaQ.out.size));have hS1:=(show _ from hSb w2 ((show Below We.heap.size We w2 from hbX.trans (hbw2.mono (hbX.size)))));clear hS;refine hK.out _ _ hS1 (fun hS => ?_);simp only [Act.put,List.setIfInBounds_toArray,List.set_cons_zero,List.set_cons_succ];refine wpAnyH_take (i:=18) (oi:={ dst:=some 75,op:=_,type:=_,pos:=_,after:=_,guard:=_ }) (v:=?vx57) rfl (by kernel_rfl) (by kernel_rfl) (by kernel_rfl) (fun _ _ _ h=>h) (Or.inl ⟨by rfl,?hyx57⟩) hS ?restx57
          case hyx57 =>
           intro z hz;obtain ⟨z1,z2,z3,z4,z5⟩:=hz
           go_simp
           try (with_reducible rfl)
          simp only [Act.put,List.setIfInBounds_toArray,List.set_cons_zero,List.set_cons_succ];refine wpAnyH_take (i:=19) (oi:={ dst:=some 76,op:=_,type:=_,pos:=_,after:=_,guard:=_ }) (v:=?vx58) rfl (by kernel_rfl) (by kernel_rfl) (by kernel_rfl) (fun _ _ _ h=>h) (Or.inl ⟨by rfl,?hyx58⟩) hS ?restx58
          case hyx58 =>
           intro z hz;obtain ⟨z1,z2,z3,z4,z5⟩:=hz
           go_simp
           try (with_reducible rfl)
          simp only [Act.put,List.setIfInBounds_toArray,List.set_cons_zero,List.set_cons_succ];refine wpAnyH_done (by kernel_rfl) ?_ _
          gi_wp2
          gi_roundg d
          case measure=>omega
          case rel=>exact ⟨i+1,by simp,⟨by have:=HD.out;omega⟩,⟨HA2.out⟩,qkr⟩
       ·
        have hgk:gk=0:=by have:=HD.out;omega
        subst hgk;obtain rfl:true=bb:=Option.some.inj HA.out;clear HA
        have HO:=Q0.mk (show ShO w A0 c0 l0.length A1 c1 l1.length lb (lb+1) (lb+2) (lb+3) Ax x W wr out from
         ⟨(Kw (Bl:=lb+4) (B:=lb+3) HB.out).1,(Kw (Bl:=lb+4) (B:=lb+3) HB.out).2,HI.out.bx.keep HB.out,Qf HI.out.lo HB.out,Qf HI.out.hi HB.out,⟨vo,Qf HBO.out HB.out,Kd.R_below HR3.out HB.out,HN.out⟩,Kd.C_below HCX.out HB.out,Nat.le_trans HI.out.sz HB.out.size⟩)
        clear HD HB qpT
        gi_upto_region 18 with (fail)
        gi_cut [79] from 80 (fun v79 wc=>v79 = .bool (decide (out=[]))∧Q0 (ShO w A0 c0 l0.length A1 c1 l1.length lb (lb+1) (lb+2) (lb+3) Ax x W wc out))
        case first =>
         obtain ⟨v2,g1,g2,g3⟩:=HO.out.ex;have hob:wr.cell? ⟨lb+2,0,none⟩=some v2:=(Q8 g1 0).trans rfl
         by_cases ho:out=[]
         ·
          rw [g3.2 ho] at hob;have hvn:=Lib.run_eql_slice_nil (P:=Try.prog) wr 32 25 none 0 0 0 0 Try.underlying32;clear g1 g2 g3
          gi_wp2
          gi_meet
          case rel=>exact ⟨by rw [decide_eq_true ho],HO⟩
         ·
          obtain ⟨go,co,eo,_,_,_⟩:=Kd.R_form g2 (List.length_pos_iff.2 ho);rw [eo] at hob;have hvn:=Lib.run_eql_slice_nil (P:=Try.prog) wr 32 25 (some ⟨go,0,none⟩) out.length co 0 0 Try.underlying32;clear g1 g2 g3 eo
          gi_wp2
          gi_meet
          case rel=>exact ⟨by rw [decide_eq_false ho],HO⟩
        case rest =>
         clear HO;obtain ⟨rfl,HO⟩:=hcut
         gi_upto_if 79 with (fail)
         gi_cut [] from 79 (fun wc=>Q0 (ShO w A0 c0 l0.length A1 c1 l1.length lb (lb+1) (lb+2) (lb+3) Ax x W wc (if out=[] then x.map (fun n=>⟨n,n⟩) else out)))
         case first =>
          by_cases ho:out=[]
          ·
           have hod:decide (out=[])=true:=decide_eq_true ho;subst ho
           gi_wp2
           gi_loopg [82] x.length (fun d v82 wr => ∃ (i:Nat),v82 = .int .i64 (i:Int)∧Q0 (i+d=x.length)∧Q0 (ShO w A0 c0 l0.length A1 c1 l1.length lb (lb+1) (lb+2) (lb+3) Ax x W wr ((x.take i).map (fun n=>⟨n,n⟩))))
           case atStart=>exact ⟨0,rfl,⟨by omega⟩,⟨by simpa using HO.out⟩⟩
           case round =>
            obtain ⟨j,rfl,HJ,HO2⟩:=hrel
            by_cases hj:j<x.length
            ·
             obtain ⟨d,rfl⟩:∃ d,gk=d+1:=⟨gk-1,by have:=HJ.out;omega⟩;obtain ⟨ad,ea,hx0⟩:=Kd.at_int HO2.out.cx (j:Int) (by omega) (by omega);subst ea;rw [Int.toNat_natCast] at hx0;obtain ⟨v2,g1,g2,g3⟩:=HO2.out.ex;have hob:wr.cell? ⟨lb+2,0,none⟩=some v2:=(Q8 g1 0).trans rfl;have hof:=Qa g1 0;have HG1:=Q0.mk g1;have HG2:=Q0.mk g2;have HG3:=Q0.mk g3;clear g1 g2 g3;have X1:=Try.underlying25
             gi_upto_region 22 with (fail)
             refine qcT ?hnoB (by kernel_rfl) ?_
             case hnoB=>rintro ⟨a,w,h⟩;exact h
             go_wp2_with (at_builtin;refine Stop.out ?_)
             refine Stop.mk ?_
             have qAZ:(((x.take j).map (fun n=>(⟨n,n⟩:S25))).length+1)*16≤140737488355328:=by simp;omega
             refine Kd.R_append k25 (w0:=wr) (lb+3) rfl (.tmp 86) (.tmp 90) 32 25 (.agg #[.int .i64 0,.int .i64 0]) 16 rfl Try.underlying32 qd9 rfl (by decide) (by omega) v2 ((x.take j).map (fun n=>⟨n,n⟩)) ⟨rd x j,rd x j⟩ [.int .i64 (rd x j),.int .i64 (rd x j)] (fun _=>True) (fun _=>False) rfl rfl (KI _ _ _ ⟨rd x j,rd x j⟩) (fun _ hk=>hk.elim) (fun _ _=>trivial) HG2.out (Below.refl _ _) HO2.out.sz qAZ ?_;intro v3 w3 hr3 hb3 qp0 qD9;obtain ⟨go3,co3,rfl,_,_,_⟩:=Kd.R_form hr3 (by simp);have qEx:w3.cell? ⟨lb+2,0,none⟩=some v2:=(Q8 (Jy HG2.out qp0 (by decide) HG1.out) 0).trans rfl;have qEy:=Qa (Jy HG2.out qp0 (by decide) HG1.out) 0;have HSN:=Q0.mk (HO2.out.app qpc HG1.out HG2.out qp0 hr3 (by simp) HROW.out)
             go_wp2
             gi_wp2
             gi_roundg d
             case measure=>omega
             case rel =>
              refine ⟨j+1,by simp,⟨by have:=HJ.out;omega⟩,⟨?_⟩⟩;have h5:=HSN.out;rw [List.take_succ_eq_append_getElem hj,List.map_append,List.map_singleton]
              have h6:rd x (j:Int)=x[j]:=by simp [rd,List.getD_eq_getElem?_getD,List.getElem?_eq_getElem hj]
              rw [← h6]
              simpa using h5
            ·
             have hjx:j=x.length:=by have:=HJ.out;omega
             subst hjx
             gi_wp2
             gi_meet
             case rel=>exact ⟨by have:=HO2.out;rw [List.take_length] at this;exact this⟩
          ·
           have hod:decide (out=[])=false:=decide_eq_false ho
           gi_wp2
           gi_meet
           case rel=>exact ⟨by rw [if_neg ho];exact HO.out⟩
         case rest =>
          clear HO;have HO:=hcut;obtain ⟨o2,ho2⟩:∃ o2,(if out=[] then x.map (fun n=>(⟨n,n⟩:S25)) else out)=o2:=⟨_,rfl⟩
          have hl2:o2.length=x.length:=by
           rw [← ho2]
           rcases HOUT.out with h|h
           ·
            rw [if_pos h];simp
           ·
            by_cases h0:out=[]
            ·
             rw [if_pos h0];simp
            ·
             rw [if_neg h0,h,HXL.out]
          rw [ho2] at HO;have HL2:=Q0.mk hl2;have HE2:=Q0.mk ho2;clear ho2 hl2
          gi_wp2
          gi_loopg [95] x.length (fun d v95 wr => ∃ (i:Nat),v95 = .int .i64 (i:Int)∧Q0 (i+d=x.length)∧Q0 (ShO w A0 c0 l0.length A1 c1 l1.length lb (lb+1) (lb+2) (lb+3) Ax x W wr (OJ o2 x i)))
          case atStart=>exact ⟨0,rfl,⟨by omega⟩,⟨by rw [qhC];exact HO.out⟩⟩
          case round =>
           obtain ⟨j,rfl,HJ,HQ⟩:=hrel
           by_cases hj:j<x.length
           ·
            obtain ⟨d,rfl⟩:∃ d,gk=d+1:=⟨gk-1,by have:=HJ.out;omega⟩;obtain ⟨ad,ea,hx0⟩:=Kd.at_int HQ.out.cx (j:Int) (by omega) (by omega);subst ea;rw [Int.toNat_natCast] at hx0;obtain ⟨v2,g1,g2,g3⟩:=HQ.out.ex;obtain ⟨oj,hoj⟩:∃ oj,OJ o2 x j=oj:=⟨_,rfl⟩
            have hjo:oj.length=x.length:=by rw [← hoj];exact qdj HL2.out (by omega)
            rw [hoj] at g2 g3;obtain ⟨go,co,rfl,_,_,_⟩:=Kd.R_form g2 (by omega);have hob:wr.cell? ⟨lb+2,0,none⟩=some (.slice (some ⟨go,0,none⟩) oj.length co):=(Q8 g1 0).trans rfl
            have hjl:j<oj.length:=by omega
            obtain ⟨c,hcl,hM,hcc,hcf⟩:=Kd.R_elem g2 z25 (j:Int) (by omega) (by omega);obtain ⟨p,hp⟩:∃ p,oj.getD j z25=p:=⟨_,rfl⟩;rw [Int.toNat_natCast] at hM hcc hcf;rw [hp] at hM;obtain rfl:=qjm hM;have he0:wr.cell? ⟨go,j*2,none⟩=some (.int .i64 p.f0):=hcc 0 _ rfl;have he1:wr.cell? ⟨go,j*2+1,none⟩=some (.int .i64 p.f1):=hcc 1 _ rfl;have HCC:=Q0.mk hcc;have HG1:=Q0.mk g1;have HG2:=Q0.mk g2;have HP:=Q0.mk hp;have HOJ:=Q0.mk hoj;have HJO:=Q0.mk hjo;clear hcc g1 g2 g3 hp hoj hjo hcl hM hcf;have X1:=Try.underlying25
            gi_upto_region 27 with (fail)
            refine X2 18 hmix ?hnoC (by kernel_rfl) (by kernel_rfl) ?_
            case hnoC=>rintro ⟨a,w,h⟩;exact h
            simp only [List.take_succ_cons,List.take_zero,List.drop_succ_cons,List.drop_zero]
            repeat still_step
            refine wpStill_nil ?_;change wpList _ _ _ _ _ (World.drew _);refine Kd.R_store k25 (w0:=wr.drew) (lb+3) rfl rfl 25 (.tmp 117) (.tmp 116) rfl 25 (o':=j*2) (j:Int) 0 oj ⟨if rd x (j:Int)<p.f0 then rd x (j:Int) else p.f0,if p.f1<rd x (j:Int) then rd x (j:Int) else p.f1⟩ (.agg #[.int .i64 (if rd x (j:Int)<p.f0 then rd x (j:Int) else p.f0),.int .i64 (if p.f1<rd x (j:Int) then rd x (j:Int) else p.f1)]) [.int .i64 (if rd x (j:Int)<p.f0 then rd x (j:Int) else p.f0),.int .i64 (if p.f1<rd x (j:Int) then rd x (j:Int) else p.f1)] [.int .i64 p.f0,.int .i64 p.f1] (fun _=>True) (fun _=>False) rfl (by rw [Int.toNat_natCast];rfl) rfl rfl (by rw [qnL.1];rfl) (by simp [Value.oneCell']) (Kd.R_drew HG2.out) (by omega) (by omega) rfl (by rw [Int.toNat_natCast];exact HCC.out) (Nat.le_refl 2) (KI _ _ _ ⟨if rd x (j:Int)<p.f0 then rd x (j:Int) else p.f0,if p.f1<rd x (j:Int) then rd x (j:Int) else p.f1⟩) (fun _ hk=>hk.elim) (Below.refl _ _) ?_;intro w1 hr1 hb1 qAY
            have hset:oj.set (j:Int).toNat ⟨if rd x (j:Int)<p.f0 then rd x (j:Int) else p.f0,if p.f1<rd x (j:Int) then rd x (j:Int) else p.f1⟩=OJ o2 x (j+1):=by
             rw [Int.toNat_natCast,← HOJ.out]
             exact qhB HL2.out hj (by rw [HOJ.out];exact HP.out)
            rw [hset] at hr1;have HSN:=Q0.mk (HQ.out.put qpc HG1.out HG2.out (UR qAY) hr1 (by intro e;have:=qdj (j:=j+1) HL2.out (by omega);rw [e] at this;simp at this;omega) HROW.out);clear hset
            go_wp2
            all_goals
             gi_wp2
            all_goals
             gi_roundg d
             case measure=>omega
             case rel=>exact ⟨j+1,by simp,⟨by have:=HJ.out;omega⟩,HSN⟩
           ·
            have hjx:j=x.length:=by have:=HJ.out;omega
            subst hjx
            gi_wp2
            have h5:=HQ.out;rw [qj7 HL2.out] at h5;obtain ⟨v2,g1,g2,g3⟩:=h5.ex;refine ⟨h5.kf,h5.kr,⟨⟨v2,_,?_,g1,g2,g3⟩,h5.bx,h5.lo,h5.hi,h5.sz⟩⟩;rw [HST.out,← HE2.out]
            rfl
     case done =>
      intro D W hD hI hK;obtain ⟨v,out,h1,h2,h3,h4⟩:=hI.ex;have hco:W.cell? ⟨lb+2,0,none⟩=some v:=(Q8 h2 0).trans rfl;have hF2:=HF.out;rw [h1] at hF2
      have hDw:w.heap.size≤D:=by omega
      have HBW:=Q0.mk hI.bx.below;have HKD:=Q0.mk hK;have HR3:=Q0.mk h3
      have heq:∀ (a:Option Addr) (n c:Nat),(binOp .eql 32 (.slice a n c) (.slice none 0 0)).run Try.prog W = .ok (.bool a.isNone) W:=fun a n c=>Lib.run_eql_slice_nil W 32 25 a n c 0 0 Try.underlying32
      clear hI h2 h1 h3 HF hK
      by_cases ho:out=[]
      ·
       obtain rfl:=h4.2 ho;subst ho
       injection hF2 with hF2
       replace hF2:(([],4):List S25 × Int)=(r1,r2):=hF2
       injection hF2 with e1 e2
       subst e1 e2;clear h4 HR3
       gi_wp2
       simp only [Exit.noGoto];refine ⟨by simp,.inl ⟨_,_,rfl,run_takeDeferred HKD.out,?_⟩⟩;refine ⟨_,results_tmp2 rfl _ _ _,?_⟩
       exact ⟨_,rfl,Kd.V_nil _ _ _ _ _,HBW.out.grown (grownBy_putObj' _ _ _) HBW.out.size (fun r e=>by cases e;omega)⟩
      ·
       injection hF2 with hF2
       replace hF2:(out,(0:Int))=(r1,r2):=by rw [← hF2];simp [ho]
       injection hF2 with e1 e2
       subst e1 e2;have hpos:0<out.length:=List.length_pos_iff.2 ho;obtain ⟨go,co,eo,gb,gl,cl,HG⟩:=Kd.R_form HR3.out hpos;subst eo;have hcc:=(Kd.R_reads' HR3.out).2.1;have hcut:=UK (P:=Try.prog) 32 25 Try.underlying32 rfl (some ⟨go,0,none⟩) out.length co hcc;have HGC:=Q0.mk HG;clear HG h4 ho
       gi_wp2
       simp only [Exit.noGoto];refine ⟨by simp,.inl ⟨_,_,rfl,run_takeDeferred HKD.out,?_⟩⟩;refine ⟨_,results_tmp2 rfl _ _ _,?_⟩;have hgp:=grownBy_putObj' W D (.deferred none);have hR4:Kd.R k25 25 W w.heap.size (fun k_=>w.heap.size≤k_) (.slice (some ⟨go,0,none⟩) out.length co) out:=Kd.R_mono (Kd.R_bound (Kd.R_lower HR3.out (by omega))) (fun _ hk=>hk.2.1)
       have hne:go≠D:=fun e=>by
        have h5:=HGC.out;rw [e,HKD.out] at h5;cases h5
       refine ⟨_,rfl,qkz (Kd.R_mono (Kd.R_move (Kd.R_types2 hR4 HKD.out) (fun k hk=>World.putObj_heap_other hk.2)) (fun _ hk=>hk.1)) _ rfl,HBW.out.grown hgp HBW.out.size (fun r e=>by cases e;omega)⟩
end Go.Proofs.Ytmhomdohhihlcaa.P
namespace Go.Proofs.Ytmhomdohhihlcaa.P
open Go.RowKit Go.Proofs.YtmhomdohhihlcaaW.PrintWords Go.Proofs.YtmhomdohhihlcaaW.PrintLast Go.Proofs.YtmhomdohhihlcaaW.PrintMore
section
attribute [local go_sem] YF YH YY YZ Yq Yr YG YI
mutual
def QT.l0:Nat→List (S68)→Int→Int→Bool→List (S68)→Int→Int→Option (Int × Int × Int)
 | 0,_,_,_,_,_,_,_=>none
 | k+1,x0,x1,x2,x8,x17,x18,x19=>if x19<x18 then (if 0≤x19 then (if x19<(x17.length:Int) then (if x8=true then ((Qj.f ((Yd x17 x19).f0) 0 10000).bind fun t105=>(if t105=true then ((ZG.f ((Yd x17 x19).f1.f0) ((Yd x17 x19).f1.f1) 20).bind fun qcC=>(QT.l0 k x0 x1 x2 qcC x17 x18 (wrap64 (x19+1)))) else (QT.l0 k x0 x1 x2 false x17 x18 (wrap64 (x19+1))))) else (QT.l0 k x0 x1 x2 false x17 x18 (wrap64 (x19+1)))) else (none)) else (none)) else (if x8=true then ((Qj.f x1 0 20).bind fun t107=>(if t107=true then ((Qj.f x2 x1 20).bind fun qlM=>(QT.j1 k x0 x1 x2 (!qlM))) else (QT.j1 k x0 x1 x2 true))) else (some (0,0,90)))
def QT.j1:Nat→List (S68)→Int→Int→Bool→Option (Int × Int × Int)
 | 0,_,_,_,_=>none
 | k+1,x0,x1,x2,x46=>if x46=true then (some (0,0,7)) else (QT.l1 k x1 x2 x0 (x0.length:Int) 0 0 0)
def QT.l1:Nat→Int→Int→List (S68)→Int→Int→Int→Int→Option (Int × Int × Int)
 | 0,_,_,_,_,_,_,_=>none
 | k+1,x1,x2,x48,x49,x50,O4,O5=>if x50<x49 then (if 0≤x50 then (if x50<(x48.length:Int) then (if x1≤((Yd x48 x50).f1.f0) then (QT.j3 k x1 x2 x48 x49 x50 (decide (((Yd x48 x50).f1.f1)≤x2)) O4 O5 ((Yd x48 x50).f0) ((Yd x48 x50).f1.f0) ((Yd x48 x50).f1.f1)) else (QT.j3 k x1 x2 x48 x49 x50 false O4 O5 ((Yd x48 x50).f0) ((Yd x48 x50).f1.f0) ((Yd x48 x50).f1.f1))) else (none)) else (none)) else (some (O4,O5,0))
def QT.j3:Nat→Int→Int→List (S68)→Int→Int→Bool→Int→Int→Int→Int→Int→Option (Int × Int × Int)
 | 0,_,_,_,_,_,_,_,_,_,_,_=>none
 | k+1,x1,x2,x48,x49,x50,x65,O4,O5,qaL,qiR,qiS=>if x65=true then (if x1≤qiS then (if qiR≤x2 then (QT.l1 k x1 x2 x48 x49 (wrap64 (x50+1)) (wrap64 (O4+qaL)) (wrap64 (O5+qaL))) else (QT.l1 k x1 x2 x48 x49 (wrap64 (x50+1)) (wrap64 (O4+qaL)) O5)) else (QT.l1 k x1 x2 x48 x49 (wrap64 (x50+1)) (wrap64 (O4+qaL)) O5)) else (if x1≤qiS then (if qiR≤x2 then (QT.l1 k x1 x2 x48 x49 (wrap64 (x50+1)) O4 (wrap64 (O5+qaL))) else (QT.l1 k x1 x2 x48 x49 (wrap64 (x50+1)) O4 O5)) else (QT.l1 k x1 x2 x48 x49 (wrap64 (x50+1)) O4 O5))
end
def QT.f (k:Nat) (l0:List (S68)) (a1:Int) (a2:Int):Option (Int × Int × Int):=QT.l0 k l0 a1 a2 (decide ((l0.length:Int)≤20)) l0 (l0.length:Int) 0
set_option maxHeartbeats 8000000 in
set_option maxRecDepth 100000 in
theorem QT.calls (k:Nat) (A0:Option Addr) (c0:Nat) (l0:List (S68)) (a1:Int) (a2:Int) (r1:Int) (r2:Int) (r3:Int) (w:World) (hr0:Kd.C k68 w A0 l0.length l0) (hc0:l0.length≤c0) (h:QT.f k l0 a1 a2=some (r1,r2,r3)) :
  Calls Try.prog 19 #[.slice A0 l0.length c0,.int .i64 a1,.int .i64 a2] w fun e w'=>e = .returned (.tuple #[.agg #[.int .i64 r1,.int .i64 r2],.int .i64 r3])∧Below w.heap.size w w':=by
 have X1:=Try.underlying25
 have qBm:=Try.underlying68
 have HR0:=Q0.mk hr0
 have HC0:=Q0.mk hc0
 clear hr0 hc0
 have HB:=Q0.mk (Below.refl w.heap.size w)
 have H:(QT.l0 k l0 a1 a2 (decide ((l0.length:Int)≤20)) l0 (l0.length:Int) 0)=some (r1,r2,r3):=h
 clear h
 have H':=Q0.mk H
 clear H
 go_enter Try.func19,Try.ntmps19
 go_wp2_with (first|((with_reducible refine QW (N:=6) rfl ?_);refine Ym ?hg (N:=6) ?hd (cs:=#[.int .i64 0,.int .i64 0]) (t:=25) ?hr ?_;(case hd=>rfl);(case hg=>rfl);(case hr=>first|(go_simp;done)|(go_simp;rfl));intro J0 hg w4 hbox hb;have n0_:=Q0.mk (Qi (by repeat (first|(with_reducible first|exact HB.out|apply Q2|apply Q1|apply Q4)|exact HB.out)) hb);have n1_:=Q0.mk (hbox);have n2_:=Q0.mk ((by rw [hg];exact (Qe (by repeat (first|(with_reducible first|exact HB.out|apply Q2|apply Q1|apply Q4)|exact HB.out))):w.heap.size≤J0));have n3_:=n2_;clear HB;have HB:=n0_;have Zc:=n1_;have qBB:=n2_;have Js:=n3_;clear n0_ n1_ n2_ n3_ hb hbox hg))
 go_loopg [8,19] k (fun kq v8 v19 w' => ∃ (Ux:Bool) (ZF:Int),v8 = .bool Ux∧v19 = .int .i64 ZF∧Q0 (QT.l0 kq l0 a1 a2 Ux l0 (l0.length:Int) ZF=some (r1,r2,r3))∧Q0 (kq≤k)∧Q0 (w'.heap[J0]? = some (.cells #[.int .i64 0,.int .i64 0] 25 (0,0)))∧Q0 (Below w.heap.size w w'))
 case atStart=>exact ⟨(decide ((l0.length:Int)≤20)),(0),(by first|rfl|(simp;done)|(simp [*];done)),(by first|rfl|(simp;done)|(simp [*];done)),H',⟨Nat.le_refl _⟩,⟨by (with_reducible repeat (first|refine Q5 ?_ _|refine Q6 ?_|refine Q3 ?_ _));exact Zc.out⟩,⟨by repeat (first|(with_reducible first|exact HB.out|apply Q2|apply Q1|apply Q4|refine Q7 ?_ Js.out)|exact HB.out)⟩⟩
 case round =>
  clear H'
  try clear c1
  try clear p2
  obtain ⟨Ux,ZF,rfl,rfl,HA,HK1,Zc,HB⟩:=hrel
  cases gk with
  | zero=>exact absurd HA.out (by simp [QT.l0])
  | succ k1 =>
   have H:=HA.out
   clear HA
   simp only [QT.l0] at H
   by_cases c5:ZF<(l0.length:Int)
   ·
    rw [if_pos c5] at H;have c5b0:decide (ZF<(l0.length:Int))=true:=decide_eq_true c5;clear c5
    by_cases c6:0≤ZF
    ·
     rw [if_pos c6] at H;have c6b0:decide (0≤ZF)=true:=decide_eq_true c6;clear c6
     by_cases c7:ZF<(l0.length:Int)
     ·
      rw [if_pos c7] at H;have c7b0:decide (ZF<(l0.length:Int))=true:=decide_eq_true c7;clear c7
      by_cases c8:Ux=true
      ·
       subst c8
       have H1:((Qj.f ((Yd l0 ZF).f0) 0 10000).bind fun t105=>(if t105=true then ((ZG.f ((Yd l0 ZF).f1.f0) ((Yd l0 ZF).f1.f1) 20).bind fun qcC=>(QT.l0 k1 l0 a1 a2 qcC l0 (l0.length:Int) (wrap64 (ZF+1)))) else (QT.l0 k1 l0 a1 a2 false l0 (l0.length:Int) (wrap64 (ZF+1)))))=some (r1,r2,r3):=by rw [if_pos rfl] at H;exact H
       clear H;have H:=H1;clear H1;replace H:=Option.bind_eq_some_iff.mp H;obtain ⟨t105,A90,H⟩:=H;replace H:(if t105=true then ((ZG.f ((Yd l0 ZF).f1.f0) ((Yd l0 ZF).f1.f1) 20).bind fun qcC=>(QT.l0 k1 l0 a1 a2 qcC l0 (l0.length:Int) (wrap64 (ZF+1)))) else (QT.l0 k1 l0 a1 a2 false l0 (l0.length:Int) (wrap64 (ZF+1))))=some (r1,r2,r3):=H;have A9:=Q0.mk A90;clear A90
       by_cases c10:t105=true
       ·
        subst c10
        have H1:((ZG.f ((Yd l0 ZF).f1.f0) ((Yd l0 ZF).f1.f1) 20).bind fun qcC=>(QT.l0 k1 l0 a1 a2 qcC l0 (l0.length:Int) (wrap64 (ZF+1))))=some (r1,r2,r3):=by rw [if_pos rfl] at H;exact H
        clear H;have H:=H1;clear H1;replace H:=Option.bind_eq_some_iff.mp H;obtain ⟨qcC,qeP,H⟩:=H;replace H:(QT.l0 k1 l0 a1 a2 qcC l0 (l0.length:Int) (wrap64 (ZF+1)))=some (r1,r2,r3):=H;have A11:=Q0.mk qeP;clear qeP;have H':=Q0.mk H;clear H;have qaB:0≤(ZF:Int):=of_decide_eq_true (by first|(with_reducible assumption)|assumption);have qaD:ZF<(l0.length:Int):=of_decide_eq_true (by first|(with_reducible assumption)|assumption);obtain ⟨qoZ,qkU,Gq,Gr,Gs⟩:=qdt HR0.out ZF qaB qaD;cases qkU;replace Gq:=(HB.out.cell (World.block_lt_of_cell? w _ Gq)).trans Gq;replace Gr:=(HB.out.cell (World.block_lt_of_cell? w _ Gr)).trans Gr;replace Gs:=(HB.out.cell (World.block_lt_of_cell? w _ Gs)).trans Gs;replace qaB:=eq_true qaB;replace qaD:=eq_true qaD
        go_wp2_with (first|((with_reducible refine QW (N:=10) rfl ?_);refine Ym ?hg (N:=10) ?hd (cs:=#[.int .i64 0,.int .i64 0,.int .i64 0]) (t:=68) ?hr ?_;(case hd=>rfl);(case hg=>rfl);(case hr=>first|(go_simp;done)|(go_simp;rfl));intro Gk hg w12 hbox hb;have n0_:=Q0.mk (Qf (g:=J0) (by (with_reducible repeat (first|refine Q5 ?_ _|refine Q6 ?_|refine Q3 ?_ _));exact Zc.out) hb);have n1_:=Q0.mk (Qi (by repeat (first|(with_reducible first|exact HB.out|apply Q2|apply Q1|apply Q4|refine Q7 ?_ Js.out)|exact HB.out)) hb);have n2_:=Q0.mk (hbox);have n3_:=Q0.mk ((by rw [hg];exact (Qe (by repeat (first|(with_reducible first|exact HB.out|apply Q2|apply Q1|apply Q4|refine Q7 ?_ Js.out)|exact HB.out))):w.heap.size≤Gk));have n4_:=n3_;have n5_:=Q0.mk ((by rw [hg];exact Nat.ne_of_lt (QO (g:=J0) (by (with_reducible repeat (first|refine Q5 ?_ _|refine Q6 ?_|refine Q3 ?_ _));exact Zc.out)):J0≠Gk));have n6_:=Q0.mk (n5_.out.symm);clear Zc HB;have Zc:=n0_;have HB:=n1_;have Gu:=n2_;have qot:=n3_;have qc9:=n4_;have Ju:=n5_;have UD:=n6_;clear n0_ n1_ n2_ n3_ n4_ n5_ n6_ hb hbox hg;have qCs:=UD.out;have qC4:=Ju.out;have OW:w12.cell? ⟨Gk,0,none⟩=some (.int .i64 0):=(Q8 Gu.out 0).trans rfl;have OX:w12.cell? ⟨Gk,1,none⟩=some (.int .i64 0):=(Q8 Gu.out 1).trans rfl;have OY:w12.cell? ⟨Gk,2,none⟩=some (.int .i64 0):=(Q8 Gu.out 2).trans rfl;have U8:=Qa Gu.out 0;have U9:=Qa Gu.out 1;have Ua:=Qa Gu.out 2)|(go_at_call 65;(with_reducible refine (Qj.calls ((Yd l0 ZF).f0) 0 10000 true _ A9.out).mono ?_);rintro e w' ⟨rfl,⟨nd,rfl⟩⟩)|(go_at_call 66;(with_reducible refine (ZG.calls ((Yd l0 ZF).f1.f0) ((Yd l0 ZF).f1.f1) 20 qcC _ A11.out).mono ?_);rintro e w15 ⟨rfl,hb⟩;have n0_:=Q0.mk (Qf (g:=J0) (o:=.cells #[.int .i64 0,.int .i64 0] 25 (0,0)) (by (with_reducible repeat (first|refine Q5 ?_ _|refine Q6 ?_|refine Q3 ?_ _));refine Qm ?_ Ju.out _;(with_reducible repeat (first|refine Q5 ?_ _|refine Q6 ?_|refine Q3 ?_ _));refine Qm ?_ Ju.out _;(with_reducible repeat (first|refine Q5 ?_ _|refine Q6 ?_|refine Q3 ?_ _));refine Qm ?_ Ju.out _;(with_reducible repeat (first|refine Q5 ?_ _|refine Q6 ?_|refine Q3 ?_ _));exact Zc.out) hb);have n1_:=Q0.mk (Qf (g:=Gk) (o:=.cells #[.int .i64 ((Yd l0 ZF).f0),.int .i64 ((Yd l0 ZF).f1.f0),.int .i64 ((Yd l0 ZF).f1.f1)] 68 (0,0)) (by (with_reducible repeat (first|refine Q5 ?_ _|refine Q6 ?_|refine Q3 ?_ _));refine QC (cs:=#[.int .i64 ((Yd l0 ZF).f0),.int .i64 ((Yd l0 ZF).f1.f0),.int .i64 0]) ?_ 2 _ rfl;(with_reducible repeat (first|refine Q5 ?_ _|refine Q6 ?_|refine Q3 ?_ _));refine QC (cs:=#[.int .i64 ((Yd l0 ZF).f0),.int .i64 0,.int .i64 0]) ?_ 1 _ rfl;(with_reducible repeat (first|refine Q5 ?_ _|refine Q6 ?_|refine Q3 ?_ _));refine QC (cs:=#[.int .i64 0,.int .i64 0,.int .i64 0]) ?_ 0 _ rfl;(with_reducible repeat (first|refine Q5 ?_ _|refine Q6 ?_|refine Q3 ?_ _));exact Gu.out) hb);have n2_:=Q0.mk (Qi (by repeat (first|(with_reducible first|exact HB.out|apply Q2|apply Q1|apply Q4|refine Q7 ?_ Js.out|refine Q7 ?_ qc9.out)|exact HB.out)) hb);clear Zc Gu HB;have Zc:=n0_;have Gu:=n1_;have HB:=n2_;clear n0_ n1_ n2_;(try clear hb);(try clear hb2);(try clear hk);(try clear hi)))
        go_roundg k1
        case measure=>have:=HK1.out;omega
        case rel=>exact ⟨(qcC),(wrap64 (ZF+1)),(by first|rfl|(simp;done)|(simp [*];done)),(by first|rfl|(simp;done)|(simp [*];done)),H',⟨by have:=HK1.out;omega⟩,⟨by (with_reducible repeat (first|refine Q5 ?_ _|refine Q6 ?_|refine Q3 ?_ _));exact Zc.out⟩,⟨by repeat (first|(with_reducible first|exact HB.out|apply Q2|apply Q1|apply Q4|refine Q7 ?_ Js.out|refine Q7 ?_ qc9.out)|exact HB.out)⟩⟩
       replace c10:=Bool.eq_false_iff.mpr c10;subst c10
       have H1:(QT.l0 k1 l0 a1 a2 false l0 (l0.length:Int) (wrap64 (ZF+1)))=some (r1,r2,r3):=by rw [if_neg (show ¬ (false=true) by decide)] at H;exact H
       clear H;have H:=H1;clear H1;have H':=Q0.mk H;clear H;have qaB:0≤(ZF:Int):=of_decide_eq_true (by first|(with_reducible assumption)|assumption);have qaD:ZF<(l0.length:Int):=of_decide_eq_true (by first|(with_reducible assumption)|assumption);obtain ⟨qoZ,qkU,Gq,Gr,Gs⟩:=qdt HR0.out ZF qaB qaD;cases qkU;replace Gq:=(HB.out.cell (World.block_lt_of_cell? w _ Gq)).trans Gq;replace Gr:=(HB.out.cell (World.block_lt_of_cell? w _ Gr)).trans Gr;replace Gs:=(HB.out.cell (World.block_lt_of_cell? w _ Gs)).trans Gs;replace qaB:=eq_true qaB;replace qaD:=eq_true qaD
       go_wp2_with (first|((with_reducible refine QW (N:=10) rfl ?_);refine Ym ?hg (N:=10) ?hd (cs:=#[.int .i64 0,.int .i64 0,.int .i64 0]) (t:=68) ?hr ?_;(case hd=>rfl);(case hg=>rfl);(case hr=>first|(go_simp;done)|(go_simp;rfl));intro Gk hg w16 hbox hb;have n0_:=Q0.mk (Qf (g:=J0) (by (with_reducible repeat (first|refine Q5 ?_ _|refine Q6 ?_|refine Q3 ?_ _));exact Zc.out) hb);have n1_:=Q0.mk (Qi (by repeat (first|(with_reducible first|exact HB.out|apply Q2|apply Q1|apply Q4|refine Q7 ?_ Js.out)|exact HB.out)) hb);have n2_:=Q0.mk (hbox);have n3_:=Q0.mk ((by rw [hg];exact (Qe (by repeat (first|(with_reducible first|exact HB.out|apply Q2|apply Q1|apply Q4|refine Q7 ?_ Js.out)|exact HB.out))):w.heap.size≤Gk));have n4_:=n3_;have n5_:=Q0.mk ((by rw [hg];exact Nat.ne_of_lt (QO (g:=J0) (by (with_reducible repeat (first|refine Q5 ?_ _|refine Q6 ?_|refine Q3 ?_ _));exact Zc.out)):J0≠Gk));have n6_:=Q0.mk (n5_.out.symm);clear Zc HB;have Zc:=n0_;have HB:=n1_;have Gu:=n2_;have qot:=n3_;have qc9:=n4_;have Ju:=n5_;have UD:=n6_;clear n0_ n1_ n2_ n3_ n4_ n5_ n6_ hb hbox hg;have qtg:=UD.out;have qtu:=Ju.out;have U2:w16.cell? ⟨Gk,0,none⟩=some (.int .i64 0):=(Q8 Gu.out 0).trans rfl;have U3:w16.cell? ⟨Gk,1,none⟩=some (.int .i64 0):=(Q8 Gu.out 1).trans rfl;have U4:w16.cell? ⟨Gk,2,none⟩=some (.int .i64 0):=(Q8 Gu.out 2).trans rfl;have Ue:=Qa Gu.out 0;have Uf:=Qa Gu.out 1;have Ug:=Qa Gu.out 2)|(go_at_call 65;(with_reducible refine (Qj.calls ((Yd l0 ZF).f0) 0 10000 false _ A9.out).mono ?_);rintro e w' ⟨rfl,⟨nd,rfl⟩⟩))
       go_roundg k1
       case measure=>have:=HK1.out;omega
       case rel=>exact ⟨(false),(wrap64 (ZF+1)),(by first|rfl|(simp;done)|(simp [*];done)),(by first|rfl|(simp;done)|(simp [*];done)),H',⟨by have:=HK1.out;omega⟩,⟨by (with_reducible repeat (first|refine Q5 ?_ _|refine Q6 ?_|refine Q3 ?_ _));refine Qm ?_ Ju.out _;(with_reducible repeat (first|refine Q5 ?_ _|refine Q6 ?_|refine Q3 ?_ _));refine Qm ?_ Ju.out _;(with_reducible repeat (first|refine Q5 ?_ _|refine Q6 ?_|refine Q3 ?_ _));refine Qm ?_ Ju.out _;(with_reducible repeat (first|refine Q5 ?_ _|refine Q6 ?_|refine Q3 ?_ _));exact Zc.out⟩,⟨by repeat (first|(with_reducible first|exact HB.out|apply Q2|apply Q1|apply Q4|refine Q7 ?_ Js.out|refine Q7 ?_ qc9.out)|exact HB.out)⟩⟩
      replace c8:=Bool.eq_false_iff.mpr c8;subst c8
      have H1:(QT.l0 k1 l0 a1 a2 false l0 (l0.length:Int) (wrap64 (ZF+1)))=some (r1,r2,r3):=by rw [if_neg (show ¬ (false=true) by decide)] at H;exact H
      clear H;have H:=H1;clear H1;have H':=Q0.mk H;clear H;have qaB:0≤(ZF:Int):=of_decide_eq_true (by first|(with_reducible assumption)|assumption);have qaD:ZF<(l0.length:Int):=of_decide_eq_true (by first|(with_reducible assumption)|assumption);obtain ⟨qoZ,qkU,Gq,Gr,Gs⟩:=qdt HR0.out ZF qaB qaD;cases qkU;replace Gq:=(HB.out.cell (World.block_lt_of_cell? w _ Gq)).trans Gq;replace Gr:=(HB.out.cell (World.block_lt_of_cell? w _ Gr)).trans Gr;replace Gs:=(HB.out.cell (World.block_lt_of_cell? w _ Gs)).trans Gs;replace qaB:=eq_true qaB;replace qaD:=eq_true qaD
      go_wp2_with (first|((with_reducible refine QW (N:=10) rfl ?_);refine Ym ?hg (N:=10) ?hd (cs:=#[.int .i64 0,.int .i64 0,.int .i64 0]) (t:=68) ?hr ?_;(case hd=>rfl);(case hg=>rfl);(case hr=>first|(go_simp;done)|(go_simp;rfl));intro Gk hg w19 hbox hb;have n0_:=Q0.mk (Qf (g:=J0) (by (with_reducible repeat (first|refine Q5 ?_ _|refine Q6 ?_|refine Q3 ?_ _));exact Zc.out) hb);have n1_:=Q0.mk (Qi (by repeat (first|(with_reducible first|exact HB.out|apply Q2|apply Q1|apply Q4|refine Q7 ?_ Js.out)|exact HB.out)) hb);have n2_:=Q0.mk (hbox);have n3_:=Q0.mk ((by rw [hg];exact (Qe (by repeat (first|(with_reducible first|exact HB.out|apply Q2|apply Q1|apply Q4|refine Q7 ?_ Js.out)|exact HB.out))):w.heap.size≤Gk));have n4_:=n3_;have n5_:=Q0.mk ((by rw [hg];exact Nat.ne_of_lt (QO (g:=J0) (by (with_reducible repeat (first|refine Q5 ?_ _|refine Q6 ?_|refine Q3 ?_ _));exact Zc.out)):J0≠Gk));have n6_:=Q0.mk (n5_.out.symm);clear Zc HB;have Zc:=n0_;have HB:=n1_;have Gu:=n2_;have qot:=n3_;have qc9:=n4_;have Ju:=n5_;have UD:=n6_;clear n0_ n1_ n2_ n3_ n4_ n5_ n6_ hb hbox hg;have qth:=UD.out;have qtv:=Ju.out;have Oi:w19.cell? ⟨Gk,0,none⟩=some (.int .i64 0):=(Q8 Gu.out 0).trans rfl;have Oj:w19.cell? ⟨Gk,1,none⟩=some (.int .i64 0):=(Q8 Gu.out 1).trans rfl;have Ol:w19.cell? ⟨Gk,2,none⟩=some (.int .i64 0):=(Q8 Gu.out 2).trans rfl;have Oo:=Qa Gu.out 0;have Oq:=Qa Gu.out 1;have Ot:=Qa Gu.out 2))
      go_roundg k1
      case measure=>have:=HK1.out;omega
      case rel=>exact ⟨(false),(wrap64 (ZF+1)),(by first|rfl|(simp;done)|(simp [*];done)),(by first|rfl|(simp;done)|(simp [*];done)),H',⟨by have:=HK1.out;omega⟩,⟨by (with_reducible repeat (first|refine Q5 ?_ _|refine Q6 ?_|refine Q3 ?_ _));refine Qm ?_ Ju.out _;(with_reducible repeat (first|refine Q5 ?_ _|refine Q6 ?_|refine Q3 ?_ _));refine Qm ?_ Ju.out _;(with_reducible repeat (first|refine Q5 ?_ _|refine Q6 ?_|refine Q3 ?_ _));refine Qm ?_ Ju.out _;(with_reducible repeat (first|refine Q5 ?_ _|refine Q6 ?_|refine Q3 ?_ _));exact Zc.out⟩,⟨by repeat (first|(with_reducible first|exact HB.out|apply Q2|apply Q1|apply Q4|refine Q7 ?_ Js.out|refine Q7 ?_ qc9.out)|exact HB.out)⟩⟩
     rw [if_neg c7] at H
     exact absurd H (by simp)
    rw [if_neg c6] at H
    exact absurd H (by simp)
   rw [if_neg c5] at H
   have c5b0:decide (ZF<(l0.length:Int))=false:=decide_eq_false c5
   clear c5
   by_cases c22:Ux=true
   ·
    subst c22
    have H1:((Qj.f a1 0 20).bind fun t107=>(if t107=true then ((Qj.f a2 a1 20).bind fun qlM=>(QT.j1 k1 l0 a1 a2 (!qlM))) else (QT.j1 k1 l0 a1 a2 true)))=some (r1,r2,r3):=by rw [if_pos rfl] at H;exact H
    clear H;have H:=H1;clear H1;have qgv:=Q0.mk H;clear H
    go_upto_region 9 with (fail)
    go_cut [46] (fun v46 wc => ∃ (kq:Nat) (qeH:Bool),v46 = .bool qeH∧Q0 (QT.j1 kq l0 a1 a2 qeH=some (r1,r2,r3))∧Q0 (kq≤k1)∧Q0 (wc.heap[J0]? = some (.cells #[.int .i64 0,.int .i64 0] 25 (0,0)))∧Q0 (Below w.heap.size w wc))
    case first =>
     have H:=qgv.out;clear qgv;replace H:=Option.bind_eq_some_iff.mp H;obtain ⟨t107,qki,H⟩:=H;replace H:(if t107=true then ((Qj.f a2 a1 20).bind fun qlM=>(QT.j1 k1 l0 a1 a2 (!qlM))) else (QT.j1 k1 l0 a1 a2 true))=some (r1,r2,r3):=H;have A24:=Q0.mk qki;clear qki
     by_cases c25:t107=true
     ·
      subst c25
      have H1:((Qj.f a2 a1 20).bind fun qlM=>(QT.j1 k1 l0 a1 a2 (!qlM)))=some (r1,r2,r3):=by rw [if_pos rfl] at H;exact H
      clear H;have H:=H1;clear H1;replace H:=Option.bind_eq_some_iff.mp H;obtain ⟨qlM,qqv,H⟩:=H;replace H:(QT.j1 k1 l0 a1 a2 (!qlM))=some (r1,r2,r3):=H;have A26:=Q0.mk qqv;clear qqv;have H':=Q0.mk H;clear H
      go_wp2_with (first|((with_reducible refine Qz (f:=65) rfl ?_);refine Yo (some 39) rfl rfl Try.func65 (by kernel_rfl) rfl #[.int .i64 a1,.int .i64 0,.int .i64 20] rfl (by (try simp only [List.map_toArray,List.map_cons,List.map_nil]);first|done|rfl|(simp only [List.length_drop,List.length_take];rfl)) ?_;(with_reducible refine (Qj.calls a1 0 20 true _ A24.out).mono ?_);rintro e w' ⟨rfl,⟨nd,rfl⟩⟩;refine ⟨_,rfl,?_⟩)|(go_at_call 65;(with_reducible refine (Qj.calls a2 a1 20 qlM _ A26.out).mono ?_);rintro e w' ⟨rfl,⟨nd,rfl⟩⟩))
      go_meet
      case rel=>exact ⟨_,(!qlM),(by first|rfl|(simp;done)|(simp [*];done)),H',⟨by have:=HK1.out;first|omega|exact Nat.le_refl _⟩,⟨by (with_reducible repeat (first|refine Q5 ?_ _|refine Q6 ?_|refine Q3 ?_ _));exact Zc.out⟩,⟨by repeat (first|(with_reducible first|exact HB.out|apply Q2|apply Q1|apply Q4|refine Q7 ?_ Js.out)|exact HB.out)⟩⟩
     replace c25:=Bool.eq_false_iff.mpr c25;subst c25
     have H1:(QT.j1 k1 l0 a1 a2 true)=some (r1,r2,r3):=by rw [if_neg (show ¬ (false=true) by decide)] at H;exact H
     clear H;have H:=H1;clear H1;have H':=Q0.mk H;clear H
     go_wp2_with (first|((with_reducible refine Qz (f:=65) rfl ?_);refine Yo (some 39) rfl rfl Try.func65 (by kernel_rfl) rfl #[.int .i64 a1,.int .i64 0,.int .i64 20] rfl (by (try simp only [List.map_toArray,List.map_cons,List.map_nil]);first|done|rfl|(simp only [List.length_drop,List.length_take];rfl)) ?_;(with_reducible refine (Qj.calls a1 0 20 false _ A24.out).mono ?_);rintro e w' ⟨rfl,⟨nd,rfl⟩⟩;refine ⟨_,rfl,?_⟩))
     go_meet
     case rel=>exact ⟨_,(true),(by first|rfl|(simp;done)|(simp [*];done)),H',⟨by have:=HK1.out;first|omega|exact Nat.le_refl _⟩,⟨by (with_reducible repeat (first|refine Q5 ?_ _|refine Q6 ?_|refine Q3 ?_ _));exact Zc.out⟩,⟨by repeat (first|(with_reducible first|exact HB.out|apply Q2|apply Q1|apply Q4|refine Q7 ?_ Js.out)|exact HB.out)⟩⟩
    case rest =>
     clear qgv;(try clear c1);(try clear p1);(try clear q1);(try clear hx1);(try clear c2);(try clear p2);(try clear c5);(try clear c5b0);(try clear c6);(try clear c6b0);(try clear p6);(try clear c7);(try clear c7b0);(try clear c8);(try clear c10);(try clear p10);(try clear q10);(try clear qtL);(try clear c13);(try clear c17);(try clear c19);(try clear c20);(try clear c22);(try clear c25);(try clear OW);(try clear OX);(try clear OY);(try clear U2);(try clear U3);(try clear U4);(try clear Oi);(try clear Oj);(try clear Ol);(try clear U8);(try clear U9);(try clear Ua);(try clear Ue);(try clear Uf);(try clear Ug);(try clear Oo);(try clear Oq);(try clear Ot);(try clear Gq);(try clear Gr);(try clear Gs);(try clear qaB);(try clear p2);(try clear qaD);obtain ⟨kq,qeH,rfl,HA,Ut,Zc,HB⟩:=hcut
     cases kq with
     | zero=>exact absurd HA.out (by simp [QT.j1])
     | succ Wd =>
      have H:=HA.out;clear HA;simp only [QT.j1] at H
      by_cases c27:qeH=true
      ·
       subst c27
       have H1:(some (0,0,7))=some (r1,r2,r3):=by rw [if_pos rfl] at H;exact H
       clear H;have H:=H1;clear H1;simp only [Option.some.injEq,Prod.mk.injEq] at H;obtain ⟨rfl,rfl,rfl⟩:=H;have qdG:wc.cell? ⟨J0,0,none⟩=some (.int .i64 0):=(Q8 Zc.out 0).trans rfl;have qdH:wc.cell? ⟨J0,1,none⟩=some (.int .i64 0):=(Q8 Zc.out 1).trans rfl;have qdU:=Qa Zc.out 0;have qdV:=Qa Zc.out 1
       go_wp2
       refine bodyPost_ret (Xr rfl _ _ J0 25 #[.int .i64 0,.int .i64 0] (0,0) _ rfl (by (with_reducible repeat (first|refine Q5 ?_ _|refine Q6 ?_|refine Q3 ?_ _));refine QC (cs:=#[.int .i64 0,.int .i64 0]) ?_ 1 _ rfl;(with_reducible repeat (first|refine Q5 ?_ _|refine Q6 ?_|refine Q3 ?_ _));refine QC (cs:=#[.int .i64 0,.int .i64 0]) ?_ 0 _ rfl;(with_reducible repeat (first|refine Q5 ?_ _|refine Q6 ?_|refine Q3 ?_ _));exact Zc.out) Try.underlying25 rfl (by kernel_rfl)) rfl ?_
       exact ⟨by first|rfl|(simp [Qv,Qw]<;>rfl)|(simp [*,Qv,Qw]<;>rfl),by repeat (first|(with_reducible first|exact HB.out|apply Q2|apply Q1|apply Q4|refine Q7 ?_ Js.out)|exact HB.out)⟩
      replace c27:=Bool.eq_false_iff.mpr c27;subst c27
      have H1:(QT.l1 Wd a1 a2 l0 (l0.length:Int) 0 0 0)=some (r1,r2,r3):=by rw [if_neg (show ¬ (false=true) by decide)] at H;exact H
      clear H;have H:=H1;clear H1;have H':=Q0.mk H;clear H
      go_wp2_with (first|((with_reducible refine QW (N:=11) rfl ?_);refine Ym ?hg (N:=11) ?hd (cs:=#[.int .i64 0,.int .i64 0]) (t:=25) ?hr ?_;(case hd=>rfl);(case hg=>rfl);(case hr=>first|(go_simp;done)|(go_simp;rfl));intro GU hg w29 hbox hb;have n0_:=Q0.mk (Qf (g:=J0) (by (with_reducible repeat (first|refine Q5 ?_ _|refine Q6 ?_|refine Q3 ?_ _));exact Zc.out) hb);have n1_:=Q0.mk (Qi (by repeat (first|(with_reducible first|exact HB.out|apply Q2|apply Q1|apply Q4|refine Q7 ?_ Js.out)|exact HB.out)) hb);have n2_:=Q0.mk (hbox);have n3_:=Q0.mk ((by rw [hg];exact (Qe (by repeat (first|(with_reducible first|exact HB.out|apply Q2|apply Q1|apply Q4|refine Q7 ?_ Js.out)|exact HB.out))):w.heap.size≤GU));have n4_:=n3_;have n5_:=Q0.mk ((by rw [hg];exact Nat.ne_of_lt (QO (g:=J0) (by (with_reducible repeat (first|refine Q5 ?_ _|refine Q6 ?_|refine Q3 ?_ _));exact Zc.out)):J0≠GU));have n6_:=Q0.mk (n5_.out.symm);clear Zc HB;have Zc:=n0_;have HB:=n1_;have Ji:=n2_;have qBC:=n3_;have UA:=n4_;have Gc:=n5_;have UE:=n6_;clear n0_ n1_ n2_ n3_ n4_ n5_ n6_ hb hbox hg))
      go_loopg [50] Wd (fun kq v50 w' => ∃ (Yz:Int) (YP:Int) (YR:Int),v50 = .int .i64 Yz∧Q0 (QT.l1 kq a1 a2 l0 (l0.length:Int) Yz YP YR=some (r1,r2,r3))∧Q0 (kq≤Wd)∧Q0 (w'.heap[J0]? = some (.cells #[.int .i64 0,.int .i64 0] 25 (0,0)))∧Q0 (w'.heap[GU]? = some (.cells #[.int .i64 YP,.int .i64 YR] 25 (0,0)))∧Q0 (Below w.heap.size w w'))
      case atStart=>exact ⟨(0),(0),(0),(by first|rfl|(simp;done)|(simp [*];done)),H',⟨Nat.le_refl _⟩,⟨by (with_reducible repeat (first|refine Q5 ?_ _|refine Q6 ?_|refine Q3 ?_ _));exact Zc.out⟩,⟨by (with_reducible repeat (first|refine Q5 ?_ _|refine Q6 ?_|refine Q3 ?_ _));exact Ji.out⟩,⟨by repeat (first|(with_reducible first|exact HB.out|apply Q2|apply Q1|apply Q4|refine Q7 ?_ Js.out|refine Q7 ?_ UA.out)|exact HB.out)⟩⟩
      case round =>
       clear H';(try clear c1);(try clear p1);(try clear q1);(try clear hx1);(try clear c2);(try clear p2);(try clear c5);(try clear c5b0);(try clear c6);(try clear c6b0);(try clear p6);(try clear c7);(try clear c7b0);(try clear c8);(try clear c10);(try clear p10);(try clear q10);(try clear qtL);(try clear c13);(try clear c17);(try clear c19);(try clear c20);(try clear c22);(try clear c25);(try clear c27);(try clear OW);(try clear OX);(try clear OY);(try clear U2);(try clear U3);(try clear U4);(try clear Oi);(try clear Oj);(try clear Ol);(try clear qdG);(try clear qdH);(try clear U8);(try clear U9);(try clear Ua);(try clear Ue);(try clear Uf);(try clear Ug);(try clear Oo);(try clear Oq);(try clear Ot);(try clear qdU);(try clear qdV);(try clear Gq);(try clear Gr);(try clear Gs);(try clear p1);(try clear p10);(try clear qaB);(try clear p2);(try clear p6);(try clear q1);(try clear q10);(try clear qaD);obtain ⟨Yz,YP,YR,rfl,HA,HK3,Zc,Ji,HB⟩:=hrel
       cases gk with
       | zero=>exact absurd HA.out (by simp [QT.l1])
       | succ k3 =>
        have H:=HA.out;clear HA;simp only [QT.l1] at H
        by_cases c30:Yz<(l0.length:Int)
        ·
         rw [if_pos c30] at H;have c30b0:decide (Yz<(l0.length:Int))=true:=decide_eq_true c30;clear c30
         by_cases c31:0≤Yz
         ·
          rw [if_pos c31] at H;have c31b0:decide (0≤Yz)=true:=decide_eq_true c31;clear c31
          by_cases c32:Yz<(l0.length:Int)
          ·
           rw [if_pos c32] at H;have c32b0:decide (Yz<(l0.length:Int))=true:=decide_eq_true c32;clear c32;have qpq:=Q0.mk H;clear H;have qnS:0≤(Yz:Int):=of_decide_eq_true (by first|(with_reducible assumption)|assumption);have qn1:Yz<(l0.length:Int):=of_decide_eq_true (by first|(with_reducible assumption)|assumption);obtain ⟨qBR,qAd,qbY,qbZ,qb0⟩:=qdt HR0.out Yz qnS qn1;cases qAd;replace qbY:=(HB.out.cell (World.block_lt_of_cell? w _ qbY)).trans qbY;replace qbZ:=(HB.out.cell (World.block_lt_of_cell? w _ qbZ)).trans qbZ;replace qb0:=(HB.out.cell (World.block_lt_of_cell? w _ qb0)).trans qb0;replace qnS:=eq_true qnS;replace qn1:=eq_true qn1
           go_upto_region 15 with (first|((with_reducible refine QW (N:=13) rfl ?_);refine Ym ?hg (N:=13) ?hd (cs:=#[.int .i64 0,.int .i64 0,.int .i64 0]) (t:=68) ?hr ?_;(case hd=>rfl);(case hg=>rfl);(case hr=>first|(go_simp;done)|(go_simp;rfl));intro Jx hg w34 hbox hb;have n0_:=Q0.mk (Qf (g:=J0) (by (with_reducible repeat (first|refine Q5 ?_ _|refine Q6 ?_|refine Q3 ?_ _));exact Zc.out) hb);have n1_:=Q0.mk (Qf (g:=GU) (by (with_reducible repeat (first|refine Q5 ?_ _|refine Q6 ?_|refine Q3 ?_ _));exact Ji.out) hb);have n2_:=Q0.mk (Qi (by repeat (first|(with_reducible first|exact HB.out|apply Q2|apply Q1|apply Q4|refine Q7 ?_ Js.out|refine Q7 ?_ UA.out)|exact HB.out)) hb);have n3_:=Q0.mk (hbox);have n4_:=Q0.mk ((by rw [hg];exact (Qe (by repeat (first|(with_reducible first|exact HB.out|apply Q2|apply Q1|apply Q4|refine Q7 ?_ Js.out|refine Q7 ?_ UA.out)|exact HB.out))):w.heap.size≤Jx));have n5_:=n4_;have n6_:=Q0.mk ((by rw [hg];exact Nat.ne_of_lt (QO (g:=J0) (by (with_reducible repeat (first|refine Q5 ?_ _|refine Q6 ?_|refine Q3 ?_ _));exact Zc.out)):J0≠Jx));have n7_:=Q0.mk (n6_.out.symm);have n8_:=Q0.mk ((by rw [hg];exact Nat.ne_of_lt (QO (g:=GU) (by (with_reducible repeat (first|refine Q5 ?_ _|refine Q6 ?_|refine Q3 ?_ _));exact Ji.out)):GU≠Jx));have n9_:=Q0.mk (n8_.out.symm);clear Zc Ji HB;have Zc:=n0_;have Ji:=n1_;have HB:=n2_;have Zq:=n3_;have qBD:=n4_;have qa0:=n5_;have Je:=n6_;have GD:=n7_;have Jf:=n8_;have GE:=n9_;clear n0_ n1_ n2_ n3_ n4_ n5_ n6_ n7_ n8_ n9_ hb hbox hg;have qti:=GD.out;have qtw:=Je.out;have qtj:=GE.out;have qtx:=Jf.out;have qmE:w34.cell? ⟨Jx,0,none⟩=some (.int .i64 0):=(Q8 Zq.out 0).trans rfl;have qmF:w34.cell? ⟨Jx,1,none⟩=some (.int .i64 0):=(Q8 Zq.out 1).trans rfl;have qmG:w34.cell? ⟨Jx,2,none⟩=some (.int .i64 0):=(Q8 Zq.out 2).trans rfl;have qng:=Qa Zq.out 0;have qnh:=Qa Zq.out 1;have qni:=Qa Zq.out 2))
           (try simp only [Act.put,List.setIfInBounds_toArray,List.set_cons_zero,List.set_cons_succ])
           go_cut [65] (fun v65 wc => ∃ (kq:Nat) (qeK:Bool),v65 = .bool qeK∧Q0 (QT.j3 kq a1 a2 l0 (l0.length:Int) Yz qeK YP YR ((Yd l0 Yz).f0) ((Yd l0 Yz).f1.f0) ((Yd l0 Yz).f1.f1)=some (r1,r2,r3))∧Q0 (kq≤k3)∧Q0 (wc.heap[J0]? = some (.cells #[.int .i64 0,.int .i64 0] 25 (0,0)))∧Q0 (wc.heap[GU]? = some (.cells #[.int .i64 YP,.int .i64 YR] 25 (0,0)))∧Q0 (wc.heap[Jx]? = some (.cells #[.int .i64 ((Yd l0 Yz).f0),.int .i64 ((Yd l0 Yz).f1.f0),.int .i64 ((Yd l0 Yz).f1.f1)] 68 (0,0)))∧Q0 (Below w.heap.size w wc))
           case first =>
            have H:=qpq.out;clear qpq
            by_cases c38:a1≤((Yd l0 Yz).f1.f0)
            ·
             rw [if_pos c38] at H;have c38b0:decide (a1≤((Yd l0 Yz).f1.f0))=true:=decide_eq_true c38;clear c38
             (first|rw [c38b0]|(simp only [Qp,Qq];rw [c38b0])|skip)
             have H':=Q0.mk H;clear H;have qo6:=GD.out;have qo7:=Je.out;have qtk:=GE.out;have qty:=Jf.out;have qid:w34.cell? ⟨Jx,0,none⟩=some (.int .i64 0):=(Q8 Zq.out 0).trans rfl;have qie:w34.cell? ⟨Jx,1,none⟩=some (.int .i64 0):=(Q8 Zq.out 1).trans rfl;have qif:w34.cell? ⟨Jx,2,none⟩=some (.int .i64 0):=(Q8 Zq.out 2).trans rfl;have qig:=Qa Zq.out 0;have qih:=Qa Zq.out 1;have qii:=Qa Zq.out 2
             go_wp2
             go_meet
             case rel=>exact ⟨_,(decide (((Yd l0 Yz).f1.f1)≤a2)),(by first|rfl|(simp;done)|(simp [*];done)),H',⟨by have:=HK1.out;have:=Ut.out;have:=HK3.out;first|omega|exact Nat.le_refl _⟩,⟨by (with_reducible repeat (first|refine Q5 ?_ _|refine Q6 ?_|refine Q3 ?_ _));refine Qm ?_ Je.out _;(with_reducible repeat (first|refine Q5 ?_ _|refine Q6 ?_|refine Q3 ?_ _));refine Qm ?_ Je.out _;(with_reducible repeat (first|refine Q5 ?_ _|refine Q6 ?_|refine Q3 ?_ _));refine Qm ?_ Je.out _;(with_reducible repeat (first|refine Q5 ?_ _|refine Q6 ?_|refine Q3 ?_ _));exact Zc.out⟩,⟨by (with_reducible repeat (first|refine Q5 ?_ _|refine Q6 ?_|refine Q3 ?_ _));refine Qm ?_ Jf.out _;(with_reducible repeat (first|refine Q5 ?_ _|refine Q6 ?_|refine Q3 ?_ _));refine Qm ?_ Jf.out _;(with_reducible repeat (first|refine Q5 ?_ _|refine Q6 ?_|refine Q3 ?_ _));refine Qm ?_ Jf.out _;(with_reducible repeat (first|refine Q5 ?_ _|refine Q6 ?_|refine Q3 ?_ _));exact Ji.out⟩,⟨by (with_reducible repeat (first|refine Q5 ?_ _|refine Q6 ?_|refine Q3 ?_ _));refine QC (cs:=#[.int .i64 ((Yd l0 Yz).f0),.int .i64 ((Yd l0 Yz).f1.f0),.int .i64 0]) ?_ 2 _ rfl;(with_reducible repeat (first|refine Q5 ?_ _|refine Q6 ?_|refine Q3 ?_ _));refine QC (cs:=#[.int .i64 ((Yd l0 Yz).f0),.int .i64 0,.int .i64 0]) ?_ 1 _ rfl;(with_reducible repeat (first|refine Q5 ?_ _|refine Q6 ?_|refine Q3 ?_ _));refine QC (cs:=#[.int .i64 0,.int .i64 0,.int .i64 0]) ?_ 0 _ rfl;(with_reducible repeat (first|refine Q5 ?_ _|refine Q6 ?_|refine Q3 ?_ _));exact Zq.out⟩,⟨by repeat (first|(with_reducible first|exact HB.out|apply Q2|apply Q1|apply Q4|refine Q7 ?_ Js.out|refine Q7 ?_ UA.out|refine Q7 ?_ qa0.out)|exact HB.out)⟩⟩
            rw [if_neg c38] at H;have c38b0:decide (a1≤((Yd l0 Yz).f1.f0))=false:=decide_eq_false c38;clear c38
            (first|rw [c38b0]|(simp only [Qp,Qq];rw [c38b0])|skip)
            have H':=Q0.mk H;clear H;have qtl:=GD.out;have qtz:=Je.out;have qCB:=GE.out;have qDd:=Jf.out;have qmN:w34.cell? ⟨Jx,0,none⟩=some (.int .i64 0):=(Q8 Zq.out 0).trans rfl;have qmO:w34.cell? ⟨Jx,1,none⟩=some (.int .i64 0):=(Q8 Zq.out 1).trans rfl;have qmP:w34.cell? ⟨Jx,2,none⟩=some (.int .i64 0):=(Q8 Zq.out 2).trans rfl;have qnp:=Qa Zq.out 0;have qnq:=Qa Zq.out 1;have qnr:=Qa Zq.out 2
            go_wp2
            go_meet
            case rel=>exact ⟨_,(false),(by first|rfl|(simp;done)|(simp [*];done)),H',⟨by have:=HK1.out;have:=Ut.out;have:=HK3.out;first|omega|exact Nat.le_refl _⟩,⟨by (with_reducible repeat (first|refine Q5 ?_ _|refine Q6 ?_|refine Q3 ?_ _));refine Qm ?_ Je.out _;(with_reducible repeat (first|refine Q5 ?_ _|refine Q6 ?_|refine Q3 ?_ _));refine Qm ?_ Je.out _;(with_reducible repeat (first|refine Q5 ?_ _|refine Q6 ?_|refine Q3 ?_ _));refine Qm ?_ Je.out _;(with_reducible repeat (first|refine Q5 ?_ _|refine Q6 ?_|refine Q3 ?_ _));exact Zc.out⟩,⟨by (with_reducible repeat (first|refine Q5 ?_ _|refine Q6 ?_|refine Q3 ?_ _));refine Qm ?_ Jf.out _;(with_reducible repeat (first|refine Q5 ?_ _|refine Q6 ?_|refine Q3 ?_ _));refine Qm ?_ Jf.out _;(with_reducible repeat (first|refine Q5 ?_ _|refine Q6 ?_|refine Q3 ?_ _));refine Qm ?_ Jf.out _;(with_reducible repeat (first|refine Q5 ?_ _|refine Q6 ?_|refine Q3 ?_ _));exact Ji.out⟩,⟨by (with_reducible repeat (first|refine Q5 ?_ _|refine Q6 ?_|refine Q3 ?_ _));refine QC (cs:=#[.int .i64 ((Yd l0 Yz).f0),.int .i64 ((Yd l0 Yz).f1.f0),.int .i64 0]) ?_ 2 _ rfl;(with_reducible repeat (first|refine Q5 ?_ _|refine Q6 ?_|refine Q3 ?_ _));refine QC (cs:=#[.int .i64 ((Yd l0 Yz).f0),.int .i64 0,.int .i64 0]) ?_ 1 _ rfl;(with_reducible repeat (first|refine Q5 ?_ _|refine Q6 ?_|refine Q3 ?_ _));refine QC (cs:=#[.int .i64 0,.int .i64 0,.int .i64 0]) ?_ 0 _ rfl;(with_reducible repeat (first|refine Q5 ?_ _|refine Q6 ?_|refine Q3 ?_ _));exact Zq.out⟩,⟨by repeat (first|(with_reducible first|exact HB.out|apply Q2|apply Q1|apply Q4|refine Q7 ?_ Js.out|refine Q7 ?_ UA.out|refine Q7 ?_ qa0.out)|exact HB.out)⟩⟩
           case rest =>
            clear qpq;(try clear c1);(try clear p1);(try clear q1);(try clear hx1);(try clear c2);(try clear p2);(try clear c3);(try clear c4);(try clear c5);(try clear c5b0);(try clear c6);(try clear c6b0);(try clear p6);(try clear c7);(try clear c7b0);(try clear c8);(try clear c10);(try clear p10);(try clear q10);(try clear qtL);(try clear p11);(try clear q11);(try clear qET);(try clear c13);(try clear c17);(try clear c19);(try clear c20);(try clear c22);(try clear c25);(try clear c27);(try clear c30);(try clear c30b0);(try clear c31);(try clear c31b0);(try clear c32);(try clear c32b0);(try clear c35);(try clear c36);(try clear c38);(try clear c38b0);(try clear c39);(try clear c40);(try clear c42);(try clear c43);(try clear OW);(try clear OX);(try clear OY);(try clear U2);(try clear U3);(try clear U4);(try clear Oi);(try clear Oj);(try clear Ol);(try clear qdG);(try clear qdH);(try clear qmE);(try clear qmF);(try clear qmG);(try clear qid);(try clear qie);(try clear qif);(try clear qmN);(try clear qmO);(try clear qmP);(try clear U8);(try clear U9);(try clear Ua);(try clear Ue);(try clear Uf);(try clear Ug);(try clear Oo);(try clear Oq);(try clear Ot);(try clear qdU);(try clear qdV);(try clear qng);(try clear qnh);(try clear qni);(try clear qig);(try clear qih);(try clear qii);(try clear qnp);(try clear qnq);(try clear qnr);(try clear Gq);(try clear Gr);(try clear Gs);(try clear qbY);(try clear qbZ);(try clear qb0);(try clear p1);(try clear p10);(try clear qaB);(try clear qnS);(try clear p2);(try clear p6);(try clear q1);(try clear q10);(try clear qaD);(try clear qn1);obtain ⟨kq,qeK,rfl,HA,qbk,Zc,Ji,Zq,HB⟩:=hcut
            cases kq with
            | zero=>exact absurd HA.out (by simp [QT.j3])
            | succ qbl =>
             have H:=HA.out;clear HA;simp only [QT.j3] at H
             by_cases c45:qeK=true
             ·
              subst c45
              have H1:(if a1≤((Yd l0 Yz).f1.f1) then (if ((Yd l0 Yz).f1.f0)≤a2 then (QT.l1 qbl a1 a2 l0 (l0.length:Int) (wrap64 (Yz+1)) (wrap64 (YP+((Yd l0 Yz).f0))) (wrap64 (YR+((Yd l0 Yz).f0)))) else (QT.l1 qbl a1 a2 l0 (l0.length:Int) (wrap64 (Yz+1)) (wrap64 (YP+((Yd l0 Yz).f0))) YR)) else (QT.l1 qbl a1 a2 l0 (l0.length:Int) (wrap64 (Yz+1)) (wrap64 (YP+((Yd l0 Yz).f0))) YR))=some (r1,r2,r3):=by rw [if_pos rfl] at H;exact H
              clear H;have H:=H1;clear H1
              by_cases c46:a1≤((Yd l0 Yz).f1.f1)
              ·
               rw [if_pos c46] at H;have c46b0:decide (a1≤((Yd l0 Yz).f1.f1))=true:=decide_eq_true c46;clear c46
               by_cases c47:((Yd l0 Yz).f1.f0)≤a2
               ·
                rw [if_pos c47] at H;have c47b0:decide (((Yd l0 Yz).f1.f0)≤a2)=true:=decide_eq_true c47;clear c47;have H':=Q0.mk H;clear H;have qtm:=UE.out;have qtA:=Gc.out;have qtn:=Jf.out;have qtB:=GE.out;have qmQ:wc.cell? ⟨GU,0,none⟩=some (.int .i64 YP):=(Q8 Ji.out 0).trans rfl;have qmR:wc.cell? ⟨GU,1,none⟩=some (.int .i64 YR):=(Q8 Ji.out 1).trans rfl;have qns:=Qa Ji.out 0;have qnt:=Qa Ji.out 1;have qCE:=GD.out;have qDg:=Je.out;have quQ:wc.cell? ⟨Jx,0,none⟩=some (.int .i64 ((Yd l0 Yz).f0)):=(Q8 Zq.out 0).trans rfl;have quR:wc.cell? ⟨Jx,1,none⟩=some (.int .i64 ((Yd l0 Yz).f1.f0)):=(Q8 Zq.out 1).trans rfl;have quS:wc.cell? ⟨Jx,2,none⟩=some (.int .i64 ((Yd l0 Yz).f1.f1)):=(Q8 Zq.out 2).trans rfl;have qwR:=Qa Zq.out 0;have qwS:=Qa Zq.out 1;have qwT:=Qa Zq.out 2
                go_wp2
                go_roundg qbl
                case measure=>have:=HK1.out;have:=Ut.out;have:=HK3.out;have:=qbk.out;omega
                case rel=>exact ⟨(wrap64 (Yz+1)),(wrap64 (YP+((Yd l0 Yz).f0))),(wrap64 (YR+((Yd l0 Yz).f0))),(by first|rfl|(simp;done)|(simp [*];done)),H',⟨by have:=HK1.out;have:=Ut.out;have:=HK3.out;have:=qbk.out;omega⟩,⟨by (with_reducible repeat (first|refine Q5 ?_ _|refine Q6 ?_|refine Q3 ?_ _));refine Qm ?_ Gc.out _;(with_reducible repeat (first|refine Q5 ?_ _|refine Q6 ?_|refine Q3 ?_ _));refine Qm ?_ Gc.out _;(with_reducible repeat (first|refine Q5 ?_ _|refine Q6 ?_|refine Q3 ?_ _));exact Zc.out⟩,⟨by (with_reducible repeat (first|refine Q5 ?_ _|refine Q6 ?_|refine Q3 ?_ _));refine QC (cs:=#[.int .i64 (wrap64 (YP+((Yd l0 Yz).f0))),.int .i64 YR]) ?_ 1 _ rfl;(with_reducible repeat (first|refine Q5 ?_ _|refine Q6 ?_|refine Q3 ?_ _));refine QC (cs:=#[.int .i64 YP,.int .i64 YR]) ?_ 0 _ rfl;(with_reducible repeat (first|refine Q5 ?_ _|refine Q6 ?_|refine Q3 ?_ _));exact Ji.out⟩,⟨by repeat (first|(with_reducible first|exact HB.out|apply Q2|apply Q1|apply Q4|refine Q7 ?_ Js.out|refine Q7 ?_ UA.out|refine Q7 ?_ qa0.out)|exact HB.out)⟩⟩
               rw [if_neg c47] at H;have c47b0:decide (((Yd l0 Yz).f1.f0)≤a2)=false:=decide_eq_false c47;clear c47;have H':=Q0.mk H;clear H;have qCF:=UE.out;have qDh:=Gc.out;have qCG:=Jf.out;have qDi:=GE.out;have quT:wc.cell? ⟨GU,0,none⟩=some (.int .i64 YP):=(Q8 Ji.out 0).trans rfl;have quU:wc.cell? ⟨GU,1,none⟩=some (.int .i64 YR):=(Q8 Ji.out 1).trans rfl;have qwU:=Qa Ji.out 0;have qwV:=Qa Ji.out 1;have qCH:=GD.out;have qDj:=Je.out;have quV:wc.cell? ⟨Jx,0,none⟩=some (.int .i64 ((Yd l0 Yz).f0)):=(Q8 Zq.out 0).trans rfl;have quW:wc.cell? ⟨Jx,1,none⟩=some (.int .i64 ((Yd l0 Yz).f1.f0)):=(Q8 Zq.out 1).trans rfl;have quX:wc.cell? ⟨Jx,2,none⟩=some (.int .i64 ((Yd l0 Yz).f1.f1)):=(Q8 Zq.out 2).trans rfl;have qwW:=Qa Zq.out 0;have qwX:=Qa Zq.out 1;have qwY:=Qa Zq.out 2
               go_wp2
               go_roundg qbl
               case measure=>have:=HK1.out;have:=Ut.out;have:=HK3.out;have:=qbk.out;omega
               case rel=>exact ⟨(wrap64 (Yz+1)),(wrap64 (YP+((Yd l0 Yz).f0))),(YR),(by first|rfl|(simp;done)|(simp [*];done)),H',⟨by have:=HK1.out;have:=Ut.out;have:=HK3.out;have:=qbk.out;omega⟩,⟨by (with_reducible repeat (first|refine Q5 ?_ _|refine Q6 ?_|refine Q3 ?_ _));refine Qm ?_ Gc.out _;(with_reducible repeat (first|refine Q5 ?_ _|refine Q6 ?_|refine Q3 ?_ _));exact Zc.out⟩,⟨by (with_reducible repeat (first|refine Q5 ?_ _|refine Q6 ?_|refine Q3 ?_ _));refine QC (cs:=#[.int .i64 YP,.int .i64 YR]) ?_ 0 _ rfl;(with_reducible repeat (first|refine Q5 ?_ _|refine Q6 ?_|refine Q3 ?_ _));exact Ji.out⟩,⟨by repeat (first|(with_reducible first|exact HB.out|apply Q2|apply Q1|apply Q4|refine Q7 ?_ Js.out|refine Q7 ?_ UA.out|refine Q7 ?_ qa0.out)|exact HB.out)⟩⟩
              rw [if_neg c46] at H;have c46b0:decide (a1≤((Yd l0 Yz).f1.f1))=false:=decide_eq_false c46;clear c46;have H':=Q0.mk H;clear H;have qto:=UE.out;have qtC:=Gc.out;have qtp:=Jf.out;have qtD:=GE.out;have quY:wc.cell? ⟨GU,0,none⟩=some (.int .i64 YP):=(Q8 Ji.out 0).trans rfl;have quZ:wc.cell? ⟨GU,1,none⟩=some (.int .i64 YR):=(Q8 Ji.out 1).trans rfl;have qwZ:=Qa Ji.out 0;have qw0:=Qa Ji.out 1;have qCJ:=GD.out;have qDl:=Je.out;have qu1:wc.cell? ⟨Jx,0,none⟩=some (.int .i64 ((Yd l0 Yz).f0)):=(Q8 Zq.out 0).trans rfl;have qu2:wc.cell? ⟨Jx,1,none⟩=some (.int .i64 ((Yd l0 Yz).f1.f0)):=(Q8 Zq.out 1).trans rfl;have qu3:wc.cell? ⟨Jx,2,none⟩=some (.int .i64 ((Yd l0 Yz).f1.f1)):=(Q8 Zq.out 2).trans rfl;have qw2:=Qa Zq.out 0;have qw3:=Qa Zq.out 1;have qw4:=Qa Zq.out 2
              go_wp2
              go_roundg qbl
              case measure=>have:=HK1.out;have:=Ut.out;have:=HK3.out;have:=qbk.out;omega
              case rel=>exact ⟨(wrap64 (Yz+1)),(wrap64 (YP+((Yd l0 Yz).f0))),(YR),(by first|rfl|(simp;done)|(simp [*];done)),H',⟨by have:=HK1.out;have:=Ut.out;have:=HK3.out;have:=qbk.out;omega⟩,⟨by (with_reducible repeat (first|refine Q5 ?_ _|refine Q6 ?_|refine Q3 ?_ _));refine Qm ?_ Gc.out _;(with_reducible repeat (first|refine Q5 ?_ _|refine Q6 ?_|refine Q3 ?_ _));exact Zc.out⟩,⟨by (with_reducible repeat (first|refine Q5 ?_ _|refine Q6 ?_|refine Q3 ?_ _));refine QC (cs:=#[.int .i64 YP,.int .i64 YR]) ?_ 0 _ rfl;(with_reducible repeat (first|refine Q5 ?_ _|refine Q6 ?_|refine Q3 ?_ _));exact Ji.out⟩,⟨by repeat (first|(with_reducible first|exact HB.out|apply Q2|apply Q1|apply Q4|refine Q7 ?_ Js.out|refine Q7 ?_ UA.out|refine Q7 ?_ qa0.out)|exact HB.out)⟩⟩
             replace c45:=Bool.eq_false_iff.mpr c45;subst c45
             have H1:(if a1≤((Yd l0 Yz).f1.f1) then (if ((Yd l0 Yz).f1.f0)≤a2 then (QT.l1 qbl a1 a2 l0 (l0.length:Int) (wrap64 (Yz+1)) YP (wrap64 (YR+((Yd l0 Yz).f0)))) else (QT.l1 qbl a1 a2 l0 (l0.length:Int) (wrap64 (Yz+1)) YP YR)) else (QT.l1 qbl a1 a2 l0 (l0.length:Int) (wrap64 (Yz+1)) YP YR))=some (r1,r2,r3):=by rw [if_neg (show ¬ (false=true) by decide)] at H;exact H
             clear H;have H:=H1;clear H1
             by_cases c63:a1≤((Yd l0 Yz).f1.f1)
             ·
              rw [if_pos c63] at H;have c63b0:decide (a1≤((Yd l0 Yz).f1.f1))=true:=decide_eq_true c63;clear c63
              by_cases c64:((Yd l0 Yz).f1.f0)≤a2
              ·
               rw [if_pos c64] at H;have c64b0:decide (((Yd l0 Yz).f1.f0)≤a2)=true:=decide_eq_true c64;clear c64;have H':=Q0.mk H;clear H;have qtq:=GD.out;have qtE:=Je.out;have qCM:=GE.out;have qDo:=Jf.out;have qvf:wc.cell? ⟨Jx,0,none⟩=some (.int .i64 ((Yd l0 Yz).f0)):=(Q8 Zq.out 0).trans rfl;have qvg:wc.cell? ⟨Jx,1,none⟩=some (.int .i64 ((Yd l0 Yz).f1.f0)):=(Q8 Zq.out 1).trans rfl;have qvh:wc.cell? ⟨Jx,2,none⟩=some (.int .i64 ((Yd l0 Yz).f1.f1)):=(Q8 Zq.out 2).trans rfl;have qxg:=Qa Zq.out 0;have qxh:=Qa Zq.out 1;have qxi:=Qa Zq.out 2;have qCN:=UE.out;have qDp:=Gc.out;have qvi:wc.cell? ⟨GU,0,none⟩=some (.int .i64 YP):=(Q8 Ji.out 0).trans rfl;have qvj:wc.cell? ⟨GU,1,none⟩=some (.int .i64 YR):=(Q8 Ji.out 1).trans rfl;have qxj:=Qa Ji.out 0;have qxk:=Qa Ji.out 1
               go_wp2
               go_roundg qbl
               case measure=>have:=HK1.out;have:=Ut.out;have:=HK3.out;have:=qbk.out;omega
               case rel=>exact ⟨(wrap64 (Yz+1)),(YP),(wrap64 (YR+((Yd l0 Yz).f0))),(by first|rfl|(simp;done)|(simp [*];done)),H',⟨by have:=HK1.out;have:=Ut.out;have:=HK3.out;have:=qbk.out;omega⟩,⟨by (with_reducible repeat (first|refine Q5 ?_ _|refine Q6 ?_|refine Q3 ?_ _));refine Qm ?_ Gc.out _;(with_reducible repeat (first|refine Q5 ?_ _|refine Q6 ?_|refine Q3 ?_ _));exact Zc.out⟩,⟨by (with_reducible repeat (first|refine Q5 ?_ _|refine Q6 ?_|refine Q3 ?_ _));refine QC (cs:=#[.int .i64 YP,.int .i64 YR]) ?_ 1 _ rfl;(with_reducible repeat (first|refine Q5 ?_ _|refine Q6 ?_|refine Q3 ?_ _));exact Ji.out⟩,⟨by repeat (first|(with_reducible first|exact HB.out|apply Q2|apply Q1|apply Q4|refine Q7 ?_ Js.out|refine Q7 ?_ UA.out|refine Q7 ?_ qa0.out)|exact HB.out)⟩⟩
              rw [if_neg c64] at H;have c64b0:decide (((Yd l0 Yz).f1.f0)≤a2)=false:=decide_eq_false c64;clear c64;have H':=Q0.mk H;clear H;have qtr:=GD.out;have qtF:=Je.out;have qts:=GE.out;have qtG:=Jf.out;have qvk:wc.cell? ⟨Jx,0,none⟩=some (.int .i64 ((Yd l0 Yz).f0)):=(Q8 Zq.out 0).trans rfl;have qvl:wc.cell? ⟨Jx,1,none⟩=some (.int .i64 ((Yd l0 Yz).f1.f0)):=(Q8 Zq.out 1).trans rfl;have qvm:wc.cell? ⟨Jx,2,none⟩=some (.int .i64 ((Yd l0 Yz).f1.f1)):=(Q8 Zq.out 2).trans rfl;have qxl:=Qa Zq.out 0;have qxm:=Qa Zq.out 1;have qxn:=Qa Zq.out 2
              go_wp2
              go_roundg qbl
              case measure=>have:=HK1.out;have:=Ut.out;have:=HK3.out;have:=qbk.out;omega
              case rel=>exact ⟨(wrap64 (Yz+1)),(YP),(YR),(by first|rfl|(simp;done)|(simp [*];done)),H',⟨by have:=HK1.out;have:=Ut.out;have:=HK3.out;have:=qbk.out;omega⟩,⟨by (with_reducible repeat (first|refine Q5 ?_ _|refine Q6 ?_|refine Q3 ?_ _));exact Zc.out⟩,⟨by (with_reducible repeat (first|refine Q5 ?_ _|refine Q6 ?_|refine Q3 ?_ _));exact Ji.out⟩,⟨by repeat (first|(with_reducible first|exact HB.out|apply Q2|apply Q1|apply Q4|refine Q7 ?_ Js.out|refine Q7 ?_ UA.out|refine Q7 ?_ qa0.out)|exact HB.out)⟩⟩
             rw [if_neg c63] at H;have c63b0:decide (a1≤((Yd l0 Yz).f1.f1))=false:=decide_eq_false c63;clear c63;have H':=Q0.mk H;clear H;have qCQ:=GD.out;have qDs:=Je.out;have qCR:=GE.out;have qDt:=Jf.out;have qmS:wc.cell? ⟨Jx,0,none⟩=some (.int .i64 ((Yd l0 Yz).f0)):=(Q8 Zq.out 0).trans rfl;have qmT:wc.cell? ⟨Jx,1,none⟩=some (.int .i64 ((Yd l0 Yz).f1.f0)):=(Q8 Zq.out 1).trans rfl;have qmU:wc.cell? ⟨Jx,2,none⟩=some (.int .i64 ((Yd l0 Yz).f1.f1)):=(Q8 Zq.out 2).trans rfl;have qnu:=Qa Zq.out 0;have qnv:=Qa Zq.out 1;have qnw:=Qa Zq.out 2
             go_wp2
             go_roundg qbl
             case measure=>have:=HK1.out;have:=Ut.out;have:=HK3.out;have:=qbk.out;omega
             case rel=>exact ⟨(wrap64 (Yz+1)),(YP),(YR),(by first|rfl|(simp;done)|(simp [*];done)),H',⟨by have:=HK1.out;have:=Ut.out;have:=HK3.out;have:=qbk.out;omega⟩,⟨by (with_reducible repeat (first|refine Q5 ?_ _|refine Q6 ?_|refine Q3 ?_ _));exact Zc.out⟩,⟨by (with_reducible repeat (first|refine Q5 ?_ _|refine Q6 ?_|refine Q3 ?_ _));exact Ji.out⟩,⟨by repeat (first|(with_reducible first|exact HB.out|apply Q2|apply Q1|apply Q4|refine Q7 ?_ Js.out|refine Q7 ?_ UA.out|refine Q7 ?_ qa0.out)|exact HB.out)⟩⟩
          rw [if_neg c32] at H
          exact absurd H (by simp)
         rw [if_neg c31] at H
         exact absurd H (by simp)
        rw [if_neg c30] at H;have c30b0:decide (Yz<(l0.length:Int))=false:=decide_eq_false c30;clear c30;simp only [Option.some.injEq,Prod.mk.injEq] at H;obtain ⟨rfl,rfl,rfl⟩:=H;have qCS:=UE.out;have qDu:=Gc.out;have qmV:wr.cell? ⟨GU,0,none⟩=some (.int .i64 YP):=(Q8 Ji.out 0).trans rfl;have qvB:wr.cell? ⟨GU,1,none⟩=some (.int .i64 YR):=(Q8 Ji.out 1).trans rfl;have qnx:=Qa Ji.out 0;have qxC:=Qa Ji.out 1;have qvC:wr.cell? ⟨J0,0,none⟩=some (.int .i64 0):=(Q8 Zc.out 0).trans rfl;have qvD:wr.cell? ⟨J0,1,none⟩=some (.int .i64 0):=(Q8 Zc.out 1).trans rfl;have qxD:=Qa Zc.out 0;have qxE:=Qa Zc.out 1
        go_wp2
        refine bodyPost_ret (Xr rfl _ _ J0 25 #[.int .i64 YP,.int .i64 YR] (0,0) _ rfl (by (with_reducible repeat (first|refine Q5 ?_ _|refine Q6 ?_|refine Q3 ?_ _));refine QC (cs:=#[.int .i64 YP,.int .i64 0]) ?_ 1 _ rfl;(with_reducible repeat (first|refine Q5 ?_ _|refine Q6 ?_|refine Q3 ?_ _));refine QC (cs:=#[.int .i64 0,.int .i64 0]) ?_ 0 _ rfl;(with_reducible repeat (first|refine Q5 ?_ _|refine Q6 ?_|refine Q3 ?_ _));exact Zc.out) Try.underlying25 rfl (by kernel_rfl)) rfl ?_
        exact ⟨by first|rfl|(simp [Qv,Qw]<;>rfl)|(simp [*,Qv,Qw]<;>rfl),by repeat (first|(with_reducible first|exact HB.out|apply Q2|apply Q1|apply Q4|refine Q7 ?_ Js.out|refine Q7 ?_ UA.out)|exact HB.out)⟩
   replace c22:=Bool.eq_false_iff.mpr c22
   subst c22
   have H1:(some (0,0,90))=some (r1,r2,r3):=by rw [if_neg (show ¬ (false=true) by decide)] at H;exact H
   clear H
   have H:=H1
   clear H1
   simp only [Option.some.injEq,Prod.mk.injEq] at H
   obtain ⟨rfl,rfl,rfl⟩:=H
   have qvE:wr.cell? ⟨J0,0,none⟩=some (.int .i64 0):=(Q8 Zc.out 0).trans rfl
   have qvF:wr.cell? ⟨J0,1,none⟩=some (.int .i64 0):=(Q8 Zc.out 1).trans rfl
   have qxF:=Qa Zc.out 0
   have qxG:=Qa Zc.out 1
   go_wp2
   refine bodyPost_ret (Xr rfl _ _ J0 25 #[.int .i64 0,.int .i64 0] (0,0) _ rfl (by (with_reducible repeat (first|refine Q5 ?_ _|refine Q6 ?_|refine Q3 ?_ _));refine QC (cs:=#[.int .i64 0,.int .i64 0]) ?_ 1 _ rfl;(with_reducible repeat (first|refine Q5 ?_ _|refine Q6 ?_|refine Q3 ?_ _));refine QC (cs:=#[.int .i64 0,.int .i64 0]) ?_ 0 _ rfl;(with_reducible repeat (first|refine Q5 ?_ _|refine Q6 ?_|refine Q3 ?_ _));exact Zc.out) Try.underlying25 rfl (by kernel_rfl)) rfl ?_
   exact ⟨by first|rfl|(simp [Qv,Qw]<;>rfl)|(simp [*,Qv,Qw]<;>rfl),by repeat (first|(with_reducible first|exact HB.out|apply Q2|apply Q1|apply Q4|refine Q7 ?_ Js.out)|exact HB.out)⟩
end
section
attribute [local go_sem] YF YH YY YZ Yq Yr YG YI
attribute [local go_sem high] qh9
def YN.l0:Nat→List (S25)→List (S25)→Int→Option (Bool)
 | 0,_,_,_=>none
 | k+1,x0,x1,x5=>if x5<(x0.length:Int) then (if 0≤x5 then (if x5<(x1.length:Int) then (if (!(((Qs x0 x5).f0)==((Qs x1 x5).f0))||(!(((Qs x0 x5).f1)==((Qs x1 x5).f1))))=true then (some false) else (YN.l0 k x0 x1 (wrap64 (x5+1)))) else (none)) else (none)) else (some true)
def YN.f (k:Nat) (l0:List (S25)) (l1:List (S25)):Option (Bool):=if (l0.length:Int)=(l1.length:Int) then (YN.l0 k l0 l1 0) else (some false)
set_option maxHeartbeats 8000000 in
set_option maxRecDepth 100000 in
theorem YN.calls (k:Nat) (A0:Option Addr) (c0:Nat) (l0:List (S25)) (A1:Option Addr) (c1:Nat) (l1:List (S25)) (r:Bool) (w:World) (hr0:Kd.C k25 w A0 l0.length l0) (hc0:l0.length≤c0) (hr1:Kd.C k25 w A1 l1.length l1) (hc1:l1.length≤c1) (h:YN.f k l0 l1=some r) :
  Calls Try.prog 24 #[.slice A0 l0.length c0,.slice A1 l1.length c1] w fun e w'=>e = .returned (.bool r)∧Yu w w':=by
 have X1:=Try.underlying25
 have HR0:=Q0.mk hr0
 have HC0:=Q0.mk hc0
 clear hr0 hc0
 have HR1:=Q0.mk hr1
 have HC1:=Q0.mk hc1
 clear hr1 hc1
 have H:(if (l0.length:Int)=(l1.length:Int) then (YN.l0 k l0 l1 0) else (some false))=some r:=h
 clear h
 by_cases c3:(l0.length:Int)=(l1.length:Int)
 ·
  rw [if_pos c3] at H
  have c3b0:((l0.length:Int)==(l1.length:Int))=true:=beq_iff_eq.mpr c3
  have c3b1:((l0.length:Int) != (l1.length:Int))=false:=bne_eq_false_iff_eq.mpr c3
  have c3b2:(l0.length==l1.length)=true:=by first|simpa using c3|(simp at c3 ⊢;omega)
  clear c3
  have H':=Q0.mk H
  clear H
  go_enter Try.func24,Try.ntmps24
  go_wp2
  repeat (go_quiet (fail);try go_wp2)
  go_loopg [5] k (fun kq v5 w' => ∃ (Z6:Int),v5 = .int .i64 Z6∧Q0 (YN.l0 kq l0 l1 Z6=some r)∧Q0 (kq≤k)∧Yu w w')
  case atStart=>exact ⟨(0),(by first|rfl|(simp;done)|(simp [*];done)),H',⟨Nat.le_refl _⟩,by repeat (first|exact Yu.refl _|apply Yu.step)⟩
  case round =>
   clear H'
   try clear c1
   try clear c2
   try clear p2
   try clear c3
   try clear c3b0
   try clear c3b1
   try clear c3b2
   obtain ⟨Z6,rfl,HA,HK1,⟨m1,rfl⟩⟩:=hrel
   cases gk with
   | zero=>exact absurd HA.out (by simp [YN.l0])
   | succ k1 =>
    have H:=HA.out;clear HA;simp only [YN.l0] at H
    by_cases c4:Z6<(l0.length:Int)
    ·
     rw [if_pos c4] at H;have c4b0:decide (Z6<(l0.length:Int))=true:=decide_eq_true c4;clear c4
     by_cases c5:0≤Z6
     ·
      rw [if_pos c5] at H;have c5b0:decide (0≤Z6)=true:=decide_eq_true c5;clear c5
      by_cases c6:Z6<(l1.length:Int)
      ·
       rw [if_pos c6] at H;have c6b0:decide (Z6<(l1.length:Int))=true:=decide_eq_true c6;clear c6
       by_cases c7:(!(((Qs l0 Z6).f0)==((Qs l1 Z6).f0))||(!(((Qs l0 Z6).f1)==((Qs l1 Z6).f1))))=true
       ·
        rw [if_pos c7] at H;have c7b0:(!(((Qs l0 Z6).f0)==((Qs l1 Z6).f0))||(!(((Qs l0 Z6).f1)==((Qs l1 Z6).f1))))=true:=c7;clear c7;obtain rfl:=Option.some.inj H;have qg0:0≤(Z6:Int):=of_decide_eq_true (by first|(with_reducible assumption)|assumption);have qhd:Z6<(l0.length:Int):=of_decide_eq_true (by first|(with_reducible assumption)|assumption);obtain ⟨qrr,qpE,qnD,qnE⟩:=JM HR0.out Z6 qg0 qhd;cases qpE;replace qg0:=eq_true qg0;replace qhd:=eq_true qhd;have qg1:0≤(Z6:Int):=of_decide_eq_true (by first|(with_reducible assumption)|assumption);have qhe:Z6<(l1.length:Int):=of_decide_eq_true (by first|(with_reducible assumption)|assumption);obtain ⟨qrs,e143,qnF,qnG⟩:=JM HR1.out Z6 qg1 qhe;cases e143;replace qg1:=eq_true qg1;replace qhe:=eq_true qhe
        go_wp2
        repeat (go_quiet (fail);try go_wp2)
        go_ret
        exact ⟨by first|rfl|(simp;done)|(simp [*];done),by repeat (first|exact Yu.refl _|apply Yu.step)⟩
       rw [if_neg c7] at H
       have c7b0:(!(((Qs l0 Z6).f0)==((Qs l1 Z6).f0))||(!(((Qs l0 Z6).f1)==((Qs l1 Z6).f1))))=false:=by simpa using c7
       clear c7;have H':=Q0.mk H;clear H;have qg0:0≤(Z6:Int):=of_decide_eq_true (by first|(with_reducible assumption)|assumption);have qhd:Z6<(l0.length:Int):=of_decide_eq_true (by first|(with_reducible assumption)|assumption);obtain ⟨qrr,qpE,qnD,qnE⟩:=JM HR0.out Z6 qg0 qhd;cases qpE;replace qg0:=eq_true qg0;replace qhd:=eq_true qhd;have qg1:0≤(Z6:Int):=of_decide_eq_true (by first|(with_reducible assumption)|assumption);have qhe:Z6<(l1.length:Int):=of_decide_eq_true (by first|(with_reducible assumption)|assumption);obtain ⟨qrs,e143,qnF,qnG⟩:=JM HR1.out Z6 qg1 qhe;cases e143;replace qg1:=eq_true qg1;replace qhe:=eq_true qhe
       go_wp2
       repeat (go_quiet (fail);try go_wp2)
       go_roundg k1
       case measure=>have:=HK1.out;omega
       case rel=>exact ⟨(wrap64 (Z6+1)),(by first|rfl|(simp;done)|(simp [*];done)),H',⟨by have:=HK1.out;omega⟩,by repeat (first|exact Yu.refl _|apply Yu.step)⟩
      rw [if_neg c6] at H
      exact absurd H (by simp)
     rw [if_neg c5] at H
     exact absurd H (by simp)
    rw [if_neg c4] at H;have c4b0:decide (Z6<(l0.length:Int))=false:=decide_eq_false c4;clear c4;obtain rfl:=Option.some.inj H
    go_wp2
    repeat (go_quiet (fail);try go_wp2)
    go_ret
    exact ⟨by first|rfl|(simp;done)|(simp [*];done),by repeat (first|exact Yu.refl _|apply Yu.step)⟩
 rw [if_neg c3] at H
 have c3b0:((l0.length:Int)==(l1.length:Int))=false:=beq_eq_false_iff_ne.mpr c3
 have c3b1:((l0.length:Int) != (l1.length:Int))=true:=bne_iff_ne.mpr c3
 have c3b2:(l0.length==l1.length)=false:=by first|simpa using c3|(simp at c3 ⊢;omega)
 obtain rfl:=Option.some.inj H
 go_enter Try.func24,Try.ntmps24
 go_wp2
 repeat (go_quiet (fail);try go_wp2)
 go_ret
 exact ⟨by first|rfl|(simp;done)|(simp [*];done),by repeat (first|exact Yu.refl _|apply Yu.step)⟩
end
section
attribute [local go_sem] YF YH YY YZ Yq Yr YG YI
mutual
def Qn.j0:Nat→Int→Bool→List Int→List Int→List Int→Int→Int→Option (Bool)
 | 0,_,_,_,_,_,_,_=>none
 | k+1,x3,x4,O6,O7,O8,Up,Uq=>Qn.l0 k x3 x4 0 O6 O7 O8 Up Uq
def Qn.l0:Nat→Int→Bool→Int→List Int→List Int→List Int→Int→Int→Option (Bool)
 | 0,_,_,_,_,_,_,_,_=>none
 | k+1,x3,x4,x5,O6,O7,O8,Up,Uq=>if x4=true then (Qn.j2 k x3 x4 x5 (decide (x5<x3)) O6 O7 O8 Up Uq) else (Qn.j2 k x3 x4 x5 false O6 O7 O8 Up Uq)
def Qn.j2:Nat→Int→Bool→Int→Bool→List Int→List Int→List Int→Int→Int→Option (Bool)
 | 0,_,_,_,_,_,_,_,_,_=>none
 | k+1,x3,x4,x5,x47,O6,O7,O8,Up,Uq=>if x47=true then (if 0≤x5 then (if x5<(O6.length:Int) then ((Qj.f (rd O6 x5) 0 100000).bind fun qjL=>(if qjL=true then (if x5<(O7.length:Int) then ((Qj.f (rd O7 x5) 0 1000).bind fun qcX=>(if qcX=true then (if x5<(O8.length:Int) then ((Qj.f (rd O8 x5) 0 100).bind fun Xu=>(Qn.l0 k x3 Xu (wrap64 (x5+1)) O6 O7 O8 Up Uq)) else (none)) else (Qn.l0 k x3 false (wrap64 (x5+1)) O6 O7 O8 Up Uq))) else (none)) else (Qn.l0 k x3 false (wrap64 (x5+1)) O6 O7 O8 Up Uq))) else (none)) else (none)) else (some x4)
end
def Qn.f (k:Nat) (Qb:List Int) (Qk:List Int) (Qd:List Int) (Yb:Int) (Ya:Int):Option (Bool):=(Qj.f (Qb.length:Int) 1 6).bind fun t145=>(if t145=true then (if (Qk.length:Int)=(Qb.length:Int) then (if (Qd.length:Int)=(Qb.length:Int) then ((Qj.f Yb 0 100000000).bind fun t146=>(if t146=true then ((Qj.f Ya 0 (wrap64 ((Qb.length:Int)-1))).bind fun Xt=>(Qn.j0 k (Qb.length:Int) Xt Qb Qk Qd Yb Ya)) else (Qn.j0 k (Qb.length:Int) false Qb Qk Qd Yb Ya))) else (Qn.j0 k (Qb.length:Int) false Qb Qk Qd Yb Ya)) else (Qn.j0 k (Qb.length:Int) false Qb Qk Qd Yb Ya)) else (Qn.j0 k (Qb.length:Int) false Qb Qk Qd Yb Ya))
set_option maxHeartbeats 8000000 in
set_option maxRecDepth 100000 in
theorem Qn.calls (k:Nat) (Y5:Option Addr) (QK:Nat) (Qb:List Int) (Y2:Option Addr) (QM:Nat) (Qk:List Int) (Y7:Option Addr) (QN:Nat) (Qd:List Int) (Yb:Int) (Ya:Int) (r:Bool) (w:World) (Gy:Kd.C (Kd.int .i64) w Y5 Qb.length Qb) (GI:Qb.length≤QK) (Gz:Kd.C (Kd.int .i64) w Y2 Qk.length Qk) (GJ:Qk.length≤QM) (GA:Kd.C (Kd.int .i64) w Y7 Qd.length Qd) (GK:Qd.length≤QN) (h:Qn.f k Qb Qk Qd Yb Ya=some r) :
  Calls Try.prog 76 #[.agg #[.slice Y5 Qb.length QK,.slice Y2 Qk.length QM,.slice Y7 Qd.length QN,.int .i64 Yb,.int .i64 Ya]] w fun e w'=>e = .returned (.bool r)∧Below w.heap.size w w':=by
 have qlk:=Try.underlying111
 have Jt:=Q0.mk Gy
 have JU:=Q0.mk GI
 clear Gy GI
 have JI:=Q0.mk Gz
 have JV:=Q0.mk GJ
 clear Gz GJ
 have JJ:=Q0.mk GA
 have JW:=Q0.mk GK
 clear GA GK
 have HB:=Q0.mk (Below.refl w.heap.size w)
 have H:((Qj.f (Qb.length:Int) 1 6).bind fun t145=>(if t145=true then (if (Qk.length:Int)=(Qb.length:Int) then (if (Qd.length:Int)=(Qb.length:Int) then ((Qj.f Yb 0 100000000).bind fun t146=>(if t146=true then ((Qj.f Ya 0 (wrap64 ((Qb.length:Int)-1))).bind fun Xt=>(Qn.j0 k (Qb.length:Int) Xt Qb Qk Qd Yb Ya)) else (Qn.j0 k (Qb.length:Int) false Qb Qk Qd Yb Ya))) else (Qn.j0 k (Qb.length:Int) false Qb Qk Qd Yb Ya)) else (Qn.j0 k (Qb.length:Int) false Qb Qk Qd Yb Ya)) else (Qn.j0 k (Qb.length:Int) false Qb Qk Qd Yb Ya)))=some r:=h
 clear h
 have HC2:=Q0.mk H
 clear H
 go_enter Try.func76,Try.ntmps76
 go_upto_region 2 with (first|((with_reducible refine QW (N:=1) rfl ?_);(try (refine Ga (by rfl) ?_;dsimp only));refine Ym ?hg (N:=1) ?hd (cs:=#[.slice Y5 Qb.length QK,.slice Y2 Qk.length QM,.slice Y7 Qd.length QN,.int .i64 Yb,.int .i64 Ya]) (t:=111) ?hr ?_;(case hd=>rfl);(case hg=>rfl);(case hr=>first|(go_simp;done)|(go_simp;rfl));intro ZP hg w3 hbox hb;have n0_:=Q0.mk (Qi (by repeat (first|(with_reducible first|exact HB.out|apply Q2|apply Q1|apply Q4)|exact HB.out)) hb);have n1_:=Q0.mk (hbox);have n2_:=Q0.mk ((by rw [hg];exact (Qe (by repeat (first|(with_reducible first|exact HB.out|apply Q2|apply Q1|apply Q4)|exact HB.out))):w.heap.size≤ZP));have n3_:=n2_;clear HB;have HB:=n0_;have Ys:=n1_;have qBE:=n2_;have W8:=n3_;clear n0_ n1_ n2_ n3_ hb hbox hg;have GL:w3.cell? ⟨ZP,0,none⟩=some (.slice Y5 Qb.length QK):=(Q8 Ys.out 0).trans rfl;have GM:w3.cell? ⟨ZP,1,none⟩=some (.slice Y2 Qk.length QM):=(Q8 Ys.out 1).trans rfl;have Kj:w3.cell? ⟨ZP,2,none⟩=some (.slice Y7 Qd.length QN):=(Q8 Ys.out 2).trans rfl;have qgK:w3.cell? ⟨ZP,3,none⟩=some (.int .i64 Yb):=(Q8 Ys.out 3).trans rfl;have qgL:w3.cell? ⟨ZP,4,none⟩=some (.int .i64 Ya):=(Q8 Ys.out 4).trans rfl;have GN:=Qa Ys.out 0;have GQ:=Qa Ys.out 1;have Kn:=Qa Ys.out 2;have qgM:=Qa Ys.out 3;have qgN:=Qa Ys.out 4))
 (try simp only [Act.put,List.setIfInBounds_toArray,List.set_cons_zero,List.set_cons_succ])
 go_cut [4] (fun v4 wc => ∃ (kq:Nat) (qaO:Bool),v4 = .bool qaO∧Q0 (Qn.j0 kq (Qb.length:Int) qaO Qb Qk Qd Yb Ya=some r)∧Q0 (kq≤k)∧Q0 (wc.heap[ZP]? = some (.cells #[(.slice Y5 Qb.length QK),(.slice Y2 Qk.length QM),(.slice Y7 Qd.length QN),.int .i64 Yb,.int .i64 Ya] 111 (0,0)))∧Q0 (Below w.heap.size w wc))
 case first =>
  have H:=HC2.out
  clear HC2
  replace H:=Option.bind_eq_some_iff.mp H
  obtain ⟨t145,A50,H⟩:=H
  replace H:(if t145=true then (if (Qk.length:Int)=(Qb.length:Int) then (if (Qd.length:Int)=(Qb.length:Int) then ((Qj.f Yb 0 100000000).bind fun t146=>(if t146=true then ((Qj.f Ya 0 (wrap64 ((Qb.length:Int)-1))).bind fun Xt=>(Qn.j0 k (Qb.length:Int) Xt Qb Qk Qd Yb Ya)) else (Qn.j0 k (Qb.length:Int) false Qb Qk Qd Yb Ya))) else (Qn.j0 k (Qb.length:Int) false Qb Qk Qd Yb Ya)) else (Qn.j0 k (Qb.length:Int) false Qb Qk Qd Yb Ya)) else (Qn.j0 k (Qb.length:Int) false Qb Qk Qd Yb Ya))=some r:=H
  have A5:=Q0.mk A50
  clear A50
  by_cases c6:t145=true
  ·
   subst c6
   have H1:(if (Qk.length:Int)=(Qb.length:Int) then (if (Qd.length:Int)=(Qb.length:Int) then ((Qj.f Yb 0 100000000).bind fun t146=>(if t146=true then ((Qj.f Ya 0 (wrap64 ((Qb.length:Int)-1))).bind fun Xt=>(Qn.j0 k (Qb.length:Int) Xt Qb Qk Qd Yb Ya)) else (Qn.j0 k (Qb.length:Int) false Qb Qk Qd Yb Ya))) else (Qn.j0 k (Qb.length:Int) false Qb Qk Qd Yb Ya)) else (Qn.j0 k (Qb.length:Int) false Qb Qk Qd Yb Ya))=some r:=by rw [if_pos rfl] at H;exact H
   clear H
   have H:=H1
   clear H1
   by_cases c7:(Qk.length:Int)=(Qb.length:Int)
   ·
    rw [if_pos c7] at H;have c7b0:((Qk.length:Int)==(Qb.length:Int))=true:=beq_iff_eq.mpr c7;have c7b1:((Qk.length:Int) != (Qb.length:Int))=false:=bne_eq_false_iff_eq.mpr c7
    have c7b2:(Qk.length==Qb.length)=true:=by first|simpa using c7|(simp at c7 ⊢;omega)
    clear c7
    (first|rw [c7b0]|(simp only [Qp,Qq];rw [c7b0])|skip)
    by_cases c8:(Qd.length:Int)=(Qb.length:Int)
    ·
     rw [if_pos c8] at H;have c8b0:((Qd.length:Int)==(Qb.length:Int))=true:=beq_iff_eq.mpr c8;have c8b1:((Qd.length:Int) != (Qb.length:Int))=false:=bne_eq_false_iff_eq.mpr c8
     have c8b2:(Qd.length==Qb.length)=true:=by first|simpa using c8|(simp at c8 ⊢;omega)
     clear c8;replace H:=Option.bind_eq_some_iff.mp H;obtain ⟨t146,A90,H⟩:=H;replace H:(if t146=true then ((Qj.f Ya 0 (wrap64 ((Qb.length:Int)-1))).bind fun Xt=>(Qn.j0 k (Qb.length:Int) Xt Qb Qk Qd Yb Ya)) else (Qn.j0 k (Qb.length:Int) false Qb Qk Qd Yb Ya))=some r:=H;have A9:=Q0.mk A90;clear A90
     by_cases c10:t146=true
     ·
      subst c10
      have H1:((Qj.f Ya 0 (wrap64 ((Qb.length:Int)-1))).bind fun Xt=>(Qn.j0 k (Qb.length:Int) Xt Qb Qk Qd Yb Ya))=some r:=by rw [if_pos rfl] at H;exact H
      clear H;have H:=H1;clear H1;replace H:=Option.bind_eq_some_iff.mp H;obtain ⟨Xt,qeP,H⟩:=H;replace H:(Qn.j0 k (Qb.length:Int) Xt Qb Qk Qd Yb Ya)=some r:=H;have A11:=Q0.mk qeP;clear qeP;have H':=Q0.mk H;clear H
      go_wp2_with (first|((with_reducible refine Qz (f:=65) rfl ?_);refine Yo (some 11) rfl rfl Try.func65 (by kernel_rfl) rfl #[.int .i64 (Qb.length:Int),.int .i64 1,.int .i64 6] rfl (by (try simp only [List.map_toArray,List.map_cons,List.map_nil]);first|done|rfl|(simp only [List.length_drop,List.length_take];rfl)) ?_;(with_reducible refine (Qj.calls (Qb.length:Int) 1 6 true _ A5.out).mono ?_);rintro e w' ⟨rfl,⟨nd,rfl⟩⟩;refine ⟨_,rfl,?_⟩;have XK:w3.cell? ⟨ZP,0,none⟩=some (.slice Y5 Qb.length QK):=(Q8 Ys.out 0).trans rfl;have XL:w3.cell? ⟨ZP,1,none⟩=some (.slice Y2 Qk.length QM):=(Q8 Ys.out 1).trans rfl;have qbx:w3.cell? ⟨ZP,2,none⟩=some (.slice Y7 Qd.length QN):=(Q8 Ys.out 2).trans rfl;have qdA:w3.cell? ⟨ZP,3,none⟩=some (.int .i64 Yb):=(Q8 Ys.out 3).trans rfl;have qdB:w3.cell? ⟨ZP,4,none⟩=some (.int .i64 Ya):=(Q8 Ys.out 4).trans rfl;have XV:=Qa Ys.out 0;have XW:=Qa Ys.out 1;have qbI:=Qa Ys.out 2;have qdO:=Qa Ys.out 3;have qdP:=Qa Ys.out 4)|(go_at_call 65;(with_reducible refine (Qj.calls Yb 0 100000000 true _ A9.out).mono ?_);rintro e w' ⟨rfl,⟨nd,rfl⟩⟩)|(go_at_call 65;(with_reducible refine (Qj.calls Ya 0 (wrap64 ((Qb.length:Int)-1)) Xt _ A11.out).mono ?_);rintro e w' ⟨rfl,⟨nd,rfl⟩⟩))
      go_meet
      case rel=>exact ⟨_,(Xt),(by first|rfl|(simp;done)|(simp [*];done)),H',⟨by first|omega|exact Nat.le_refl _⟩,⟨by (with_reducible repeat (first|refine Q5 ?_ _|refine Q6 ?_|refine Q3 ?_ _));exact Ys.out⟩,⟨by repeat (first|(with_reducible first|exact HB.out|apply Q2|apply Q1|apply Q4|refine Q7 ?_ W8.out)|exact HB.out)⟩⟩
     replace c10:=Bool.eq_false_iff.mpr c10;subst c10
     have H1:(Qn.j0 k (Qb.length:Int) false Qb Qk Qd Yb Ya)=some r:=by rw [if_neg (show ¬ (false=true) by decide)] at H;exact H
     clear H;have H:=H1;clear H1;have H':=Q0.mk H;clear H
     go_wp2_with (first|((with_reducible refine Qz (f:=65) rfl ?_);refine Yo (some 11) rfl rfl Try.func65 (by kernel_rfl) rfl #[.int .i64 (Qb.length:Int),.int .i64 1,.int .i64 6] rfl (by (try simp only [List.map_toArray,List.map_cons,List.map_nil]);first|done|rfl|(simp only [List.length_drop,List.length_take];rfl)) ?_;(with_reducible refine (Qj.calls (Qb.length:Int) 1 6 true _ A5.out).mono ?_);rintro e w' ⟨rfl,⟨nd,rfl⟩⟩;refine ⟨_,rfl,?_⟩;have OT:w3.cell? ⟨ZP,0,none⟩=some (.slice Y5 Qb.length QK):=(Q8 Ys.out 0).trans rfl;have OU:w3.cell? ⟨ZP,1,none⟩=some (.slice Y2 Qk.length QM):=(Q8 Ys.out 1).trans rfl;have OV:w3.cell? ⟨ZP,2,none⟩=some (.slice Y7 Qd.length QN):=(Q8 Ys.out 2).trans rfl;have qdC:w3.cell? ⟨ZP,3,none⟩=some (.int .i64 Yb):=(Q8 Ys.out 3).trans rfl;have qdD:w3.cell? ⟨ZP,4,none⟩=some (.int .i64 Ya):=(Q8 Ys.out 4).trans rfl;have U5:=Qa Ys.out 0;have U6:=Qa Ys.out 1;have U7:=Qa Ys.out 2;have qdQ:=Qa Ys.out 3;have qdR:=Qa Ys.out 4)|(go_at_call 65;(with_reducible refine (Qj.calls Yb 0 100000000 false _ A9.out).mono ?_);rintro e w' ⟨rfl,⟨nd,rfl⟩⟩))
     go_meet
     case rel=>exact ⟨_,(false),(by first|rfl|(simp;done)|(simp [*];done)),H',⟨by first|omega|exact Nat.le_refl _⟩,⟨by (with_reducible repeat (first|refine Q5 ?_ _|refine Q6 ?_|refine Q3 ?_ _));exact Ys.out⟩,⟨by repeat (first|(with_reducible first|exact HB.out|apply Q2|apply Q1|apply Q4|refine Q7 ?_ W8.out)|exact HB.out)⟩⟩
    rw [if_neg c8] at H;have c8b0:((Qd.length:Int)==(Qb.length:Int))=false:=beq_eq_false_iff_ne.mpr c8;have c8b1:((Qd.length:Int) != (Qb.length:Int))=true:=bne_iff_ne.mpr c8
    have c8b2:(Qd.length==Qb.length)=false:=by first|simpa using c8|(simp at c8 ⊢;omega)
    have H':=Q0.mk H;clear H
    go_wp2_with (first|((with_reducible refine Qz (f:=65) rfl ?_);refine Yo (some 11) rfl rfl Try.func65 (by kernel_rfl) rfl #[.int .i64 (Qb.length:Int),.int .i64 1,.int .i64 6] rfl (by (try simp only [List.map_toArray,List.map_cons,List.map_nil]);first|done|rfl|(simp only [List.length_drop,List.length_take];rfl)) ?_;(with_reducible refine (Qj.calls (Qb.length:Int) 1 6 true _ A5.out).mono ?_);rintro e w' ⟨rfl,⟨nd,rfl⟩⟩;refine ⟨_,rfl,?_⟩;have OW:w3.cell? ⟨ZP,0,none⟩=some (.slice Y5 Qb.length QK):=(Q8 Ys.out 0).trans rfl;have OX:w3.cell? ⟨ZP,1,none⟩=some (.slice Y2 Qk.length QM):=(Q8 Ys.out 1).trans rfl;have OY:w3.cell? ⟨ZP,2,none⟩=some (.slice Y7 Qd.length QN):=(Q8 Ys.out 2).trans rfl;have qdE:w3.cell? ⟨ZP,3,none⟩=some (.int .i64 Yb):=(Q8 Ys.out 3).trans rfl;have qdF:w3.cell? ⟨ZP,4,none⟩=some (.int .i64 Ya):=(Q8 Ys.out 4).trans rfl;have U8:=Qa Ys.out 0;have U9:=Qa Ys.out 1;have Ua:=Qa Ys.out 2;have qdS:=Qa Ys.out 3;have qdT:=Qa Ys.out 4))
    go_meet
    case rel=>exact ⟨_,(false),(by first|rfl|(simp;done)|(simp [*];done)),H',⟨by first|omega|exact Nat.le_refl _⟩,⟨by (with_reducible repeat (first|refine Q5 ?_ _|refine Q6 ?_|refine Q3 ?_ _));exact Ys.out⟩,⟨by repeat (first|(with_reducible first|exact HB.out|apply Q2|apply Q1|apply Q4|refine Q7 ?_ W8.out)|exact HB.out)⟩⟩
   rw [if_neg c7] at H
   have c7b0:((Qk.length:Int)==(Qb.length:Int))=false:=beq_eq_false_iff_ne.mpr c7
   have c7b1:((Qk.length:Int) != (Qb.length:Int))=true:=bne_iff_ne.mpr c7
   have c7b2:(Qk.length==Qb.length)=false:=by first|simpa using c7|(simp at c7 ⊢;omega)
   (first|rw [c7b0]|(simp only [Qp,Qq];rw [c7b0])|skip)
   have H':=Q0.mk H
   clear H
   go_wp2_with (first|((with_reducible refine Qz (f:=65) rfl ?_);refine Yo (some 11) rfl rfl Try.func65 (by kernel_rfl) rfl #[.int .i64 (Qb.length:Int),.int .i64 1,.int .i64 6] rfl (by (try simp only [List.map_toArray,List.map_cons,List.map_nil]);first|done|rfl|(simp only [List.length_drop,List.length_take];rfl)) ?_;(with_reducible refine (Qj.calls (Qb.length:Int) 1 6 true _ A5.out).mono ?_);rintro e w' ⟨rfl,⟨nd,rfl⟩⟩;refine ⟨_,rfl,?_⟩;have Og:w3.cell? ⟨ZP,0,none⟩=some (.slice Y5 Qb.length QK):=(Q8 Ys.out 0).trans rfl;have Oh:w3.cell? ⟨ZP,1,none⟩=some (.slice Y2 Qk.length QM):=(Q8 Ys.out 1).trans rfl;have OZ:w3.cell? ⟨ZP,2,none⟩=some (.slice Y7 Qd.length QN):=(Q8 Ys.out 2).trans rfl;have U0:w3.cell? ⟨ZP,3,none⟩=some (.int .i64 Yb):=(Q8 Ys.out 3).trans rfl;have U1:w3.cell? ⟨ZP,4,none⟩=some (.int .i64 Ya):=(Q8 Ys.out 4).trans rfl;have Om:=Qa Ys.out 0;have On:=Qa Ys.out 1;have Ub:=Qa Ys.out 2;have Uc:=Qa Ys.out 3;have Ud:=Qa Ys.out 4))
   go_meet
   case rel=>exact ⟨_,(false),(by first|rfl|(simp;done)|(simp [*];done)),H',⟨by first|omega|exact Nat.le_refl _⟩,⟨by (with_reducible repeat (first|refine Q5 ?_ _|refine Q6 ?_|refine Q3 ?_ _));exact Ys.out⟩,⟨by repeat (first|(with_reducible first|exact HB.out|apply Q2|apply Q1|apply Q4|refine Q7 ?_ W8.out)|exact HB.out)⟩⟩
  replace c6:=Bool.eq_false_iff.mpr c6
  subst c6
  have H1:(Qn.j0 k (Qb.length:Int) false Qb Qk Qd Yb Ya)=some r:=by rw [if_neg (show ¬ (false=true) by decide)] at H;exact H
  clear H
  have H:=H1
  clear H1
  have H':=Q0.mk H
  clear H
  go_wp2_with (first|((with_reducible refine Qz (f:=65) rfl ?_);refine Yo (some 11) rfl rfl Try.func65 (by kernel_rfl) rfl #[.int .i64 (Qb.length:Int),.int .i64 1,.int .i64 6] rfl (by (try simp only [List.map_toArray,List.map_cons,List.map_nil]);first|done|rfl|(simp only [List.length_drop,List.length_take];rfl)) ?_;(with_reducible refine (Qj.calls (Qb.length:Int) 1 6 false _ A5.out).mono ?_);rintro e w' ⟨rfl,⟨nd,rfl⟩⟩;refine ⟨_,rfl,?_⟩))
  go_meet
  case rel=>exact ⟨_,(false),(by first|rfl|(simp;done)|(simp [*];done)),H',⟨by first|omega|exact Nat.le_refl _⟩,⟨by (with_reducible repeat (first|refine Q5 ?_ _|refine Q6 ?_|refine Q3 ?_ _));exact Ys.out⟩,⟨by repeat (first|(with_reducible first|exact HB.out|apply Q2|apply Q1|apply Q4|refine Q7 ?_ W8.out)|exact HB.out)⟩⟩
 case rest =>
  clear HC2
  try clear c1
  try clear p2
  try clear c6
  try clear p6
  try clear c7
  try clear c7b0
  try clear c7b1
  try clear c7b2
  try clear c8
  try clear c8b0
  try clear c8b1
  try clear c8b2
  try clear c10
  try clear XK
  try clear XL
  try clear qbx
  try clear qdA
  try clear qdB
  try clear OT
  try clear OU
  try clear OV
  try clear qdC
  try clear qdD
  try clear OW
  try clear OX
  try clear OY
  try clear qdE
  try clear qdF
  try clear Og
  try clear Oh
  try clear OZ
  try clear U0
  try clear U1
  try clear GL
  try clear GM
  try clear Kj
  try clear qgK
  try clear qgL
  try clear XV
  try clear XW
  try clear qbI
  try clear qdO
  try clear qdP
  try clear U5
  try clear U6
  try clear U7
  try clear qdQ
  try clear qdR
  try clear U8
  try clear U9
  try clear Ua
  try clear qdS
  try clear qdT
  try clear Om
  try clear On
  try clear Ub
  try clear Uc
  try clear Ud
  try clear GN
  try clear GQ
  try clear Kn
  try clear qgM
  try clear qgN
  obtain ⟨kq,qaO,rfl,HA,HJ1,Ys,HB⟩:=hcut
  cases kq with
  | zero=>exact absurd HA.out (by simp [Qn.j0])
  | succ kj1 =>
   have H:=HA.out
   clear HA
   simp only [Qn.j0] at H
   have H':=Q0.mk H
   clear H
   go_wp2
   go_loopg [4,5] kj1 (fun kq v4 v5 w' => ∃ (OL:Bool) (QY:Int),v4 = .bool OL∧v5 = .int .i64 QY∧Q0 (Qn.l0 kq (Qb.length:Int) OL QY Qb Qk Qd Yb Ya=some r)∧Q0 (kq≤kj1)∧Q0 (w'.heap[ZP]? = some (.cells #[(.slice Y5 Qb.length QK),(.slice Y2 Qk.length QM),(.slice Y7 Qd.length QN),.int .i64 Yb,.int .i64 Ya] 111 (0,0)))∧Q0 (Below w.heap.size w w'))
   case atStart=>exact ⟨(qaO),(0),(by first|rfl|(simp;done)|(simp [*];done)),(by first|rfl|(simp;done)|(simp [*];done)),H',⟨Nat.le_refl _⟩,⟨by (with_reducible repeat (first|refine Q5 ?_ _|refine Q6 ?_|refine Q3 ?_ _));exact Ys.out⟩,⟨by repeat (first|(with_reducible first|exact HB.out|apply Q2|apply Q1|apply Q4|refine Q7 ?_ W8.out)|exact HB.out)⟩⟩
   case round =>
    clear H';(try clear c1);(try clear p2);(try clear c6);(try clear p6);(try clear c7);(try clear c7b0);(try clear c7b1);(try clear c7b2);(try clear c8);(try clear c8b0);(try clear c8b1);(try clear c8b2);(try clear c10);(try clear XK);(try clear XL);(try clear qbx);(try clear qdA);(try clear qdB);(try clear OT);(try clear OU);(try clear OV);(try clear qdC);(try clear qdD);(try clear OW);(try clear OX);(try clear OY);(try clear qdE);(try clear qdF);(try clear Og);(try clear Oh);(try clear OZ);(try clear U0);(try clear U1);(try clear GL);(try clear GM);(try clear Kj);(try clear qgK);(try clear qgL);(try clear XV);(try clear XW);(try clear qbI);(try clear qdO);(try clear qdP);(try clear U5);(try clear U6);(try clear U7);(try clear qdQ);(try clear qdR);(try clear U8);(try clear U9);(try clear Ua);(try clear qdS);(try clear qdT);(try clear Om);(try clear On);(try clear Ub);(try clear Uc);(try clear Ud);(try clear GN);(try clear GQ);(try clear Kn);(try clear qgM);(try clear qgN);(try clear p2);(try clear p6);obtain ⟨OL,QY,rfl,rfl,HA,HK2,Ys,HB⟩:=hrel
    cases gk with
    | zero=>exact absurd HA.out (by simp [Qn.l0])
    | succ k2 =>
     have H:=HA.out;clear HA;simp only [Qn.l0] at H;have qpo:=Q0.mk H;clear H
     go_upto_region 4 with (fail)
     go_cut [47] (fun v47 wc => ∃ (kq:Nat) (qeJ:Bool),v47 = .bool qeJ∧Q0 (Qn.j2 kq (Qb.length:Int) OL QY qeJ Qb Qk Qd Yb Ya=some r)∧Q0 (kq≤k2)∧Q0 (wc.heap[ZP]? = some (.cells #[(.slice Y5 Qb.length QK),(.slice Y2 Qk.length QM),(.slice Y7 Qd.length QN),.int .i64 Yb,.int .i64 Ya] 111 (0,0)))∧Q0 (Below w.heap.size w wc))
     case first =>
      have H:=qpo.out;clear qpo
      by_cases c17:OL=true
      ·
       subst c17
       have H1:(Qn.j2 k2 (Qb.length:Int) true QY (decide (QY<(Qb.length:Int))) Qb Qk Qd Yb Ya)=some r:=by rw [if_pos rfl] at H;exact H
       clear H;have H:=H1;clear H1;have H':=Q0.mk H;clear H
       go_wp2
       go_meet
       case rel=>exact ⟨_,(decide (QY<(Qb.length:Int))),(by first|rfl|(simp;done)|(simp [*];done)),H',⟨by have:=HJ1.out;have:=HK2.out;first|omega|exact Nat.le_refl _⟩,⟨by (with_reducible repeat (first|refine Q5 ?_ _|refine Q6 ?_|refine Q3 ?_ _));exact Ys.out⟩,⟨by repeat (first|(with_reducible first|exact HB.out|apply Q2|apply Q1|apply Q4|refine Q7 ?_ W8.out)|exact HB.out)⟩⟩
      replace c17:=Bool.eq_false_iff.mpr c17;subst c17
      have H1:(Qn.j2 k2 (Qb.length:Int) false QY false Qb Qk Qd Yb Ya)=some r:=by rw [if_neg (show ¬ (false=true) by decide)] at H;exact H
      clear H;have H:=H1;clear H1;have H':=Q0.mk H;clear H
      go_wp2
      go_meet
      case rel=>exact ⟨_,(false),(by first|rfl|(simp;done)|(simp [*];done)),H',⟨by have:=HJ1.out;have:=HK2.out;first|omega|exact Nat.le_refl _⟩,⟨by (with_reducible repeat (first|refine Q5 ?_ _|refine Q6 ?_|refine Q3 ?_ _));exact Ys.out⟩,⟨by repeat (first|(with_reducible first|exact HB.out|apply Q2|apply Q1|apply Q4|refine Q7 ?_ W8.out)|exact HB.out)⟩⟩
     case rest =>
      clear qpo;(try clear c1);(try clear p2);(try clear c6);(try clear p6);(try clear c7);(try clear c7b0);(try clear c7b1);(try clear c7b2);(try clear c8);(try clear c8b0);(try clear c8b1);(try clear c8b2);(try clear c10);(try clear c17);(try clear XK);(try clear XL);(try clear qbx);(try clear qdA);(try clear qdB);(try clear OT);(try clear OU);(try clear OV);(try clear qdC);(try clear qdD);(try clear OW);(try clear OX);(try clear OY);(try clear qdE);(try clear qdF);(try clear Og);(try clear Oh);(try clear OZ);(try clear U0);(try clear U1);(try clear GL);(try clear GM);(try clear Kj);(try clear qgK);(try clear qgL);(try clear XV);(try clear XW);(try clear qbI);(try clear qdO);(try clear qdP);(try clear U5);(try clear U6);(try clear U7);(try clear qdQ);(try clear qdR);(try clear U8);(try clear U9);(try clear Ua);(try clear qdS);(try clear qdT);(try clear Om);(try clear On);(try clear Ub);(try clear Uc);(try clear Ud);(try clear GN);(try clear GQ);(try clear Kn);(try clear qgM);(try clear qgN);(try clear p2);(try clear p6);obtain ⟨kq,qeJ,rfl,HA,qi4,Ys,HB⟩:=hcut
      cases kq with
      | zero=>exact absurd HA.out (by simp [Qn.j2])
      | succ Wq =>
       have H:=HA.out;clear HA;simp only [Qn.j2] at H
       by_cases c18:qeJ=true
       ·
        subst c18
        have H1:(if 0≤QY then (if QY<(Qb.length:Int) then ((Qj.f (rd Qb QY) 0 100000).bind fun qjL=>(if qjL=true then (if QY<(Qk.length:Int) then ((Qj.f (rd Qk QY) 0 1000).bind fun qcX=>(if qcX=true then (if QY<(Qd.length:Int) then ((Qj.f (rd Qd QY) 0 100).bind fun Xu=>(Qn.l0 Wq (Qb.length:Int) Xu (wrap64 (QY+1)) Qb Qk Qd Yb Ya)) else (none)) else (Qn.l0 Wq (Qb.length:Int) false (wrap64 (QY+1)) Qb Qk Qd Yb Ya))) else (none)) else (Qn.l0 Wq (Qb.length:Int) false (wrap64 (QY+1)) Qb Qk Qd Yb Ya))) else (none)) else (none))=some r:=by rw [if_pos rfl] at H;exact H
        clear H;have H:=H1;clear H1
        by_cases c19:0≤QY
        ·
         rw [if_pos c19] at H;have c19b0:decide (0≤QY)=true:=decide_eq_true c19;clear c19
         by_cases c20:QY<(Qb.length:Int)
         ·
          rw [if_pos c20] at H;have c20b0:decide (QY<(Qb.length:Int))=true:=decide_eq_true c20;clear c20;replace H:=Option.bind_eq_some_iff.mp H;obtain ⟨qjL,qkh,H⟩:=H;replace H:(if qjL=true then (if QY<(Qk.length:Int) then ((Qj.f (rd Qk QY) 0 1000).bind fun qcX=>(if qcX=true then (if QY<(Qd.length:Int) then ((Qj.f (rd Qd QY) 0 100).bind fun Xu=>(Qn.l0 Wq (Qb.length:Int) Xu (wrap64 (QY+1)) Qb Qk Qd Yb Ya)) else (none)) else (Qn.l0 Wq (Qb.length:Int) false (wrap64 (QY+1)) Qb Qk Qd Yb Ya))) else (none)) else (Qn.l0 Wq (Qb.length:Int) false (wrap64 (QY+1)) Qb Qk Qd Yb Ya))=some r:=H;have A21:=Q0.mk qkh;clear qkh
          by_cases c22:qjL=true
          ·
           subst c22
           have H1:(if QY<(Qk.length:Int) then ((Qj.f (rd Qk QY) 0 1000).bind fun qcX=>(if qcX=true then (if QY<(Qd.length:Int) then ((Qj.f (rd Qd QY) 0 100).bind fun Xu=>(Qn.l0 Wq (Qb.length:Int) Xu (wrap64 (QY+1)) Qb Qk Qd Yb Ya)) else (none)) else (Qn.l0 Wq (Qb.length:Int) false (wrap64 (QY+1)) Qb Qk Qd Yb Ya))) else (none))=some r:=by rw [if_pos rfl] at H;exact H
           clear H;have H:=H1;clear H1
           by_cases c23:QY<(Qk.length:Int)
           ·
            rw [if_pos c23] at H;have c23b0:decide (QY<(Qk.length:Int))=true:=decide_eq_true c23;clear c23;replace H:=Option.bind_eq_some_iff.mp H;obtain ⟨qcX,qki,H⟩:=H;replace H:(if qcX=true then (if QY<(Qd.length:Int) then ((Qj.f (rd Qd QY) 0 100).bind fun Xu=>(Qn.l0 Wq (Qb.length:Int) Xu (wrap64 (QY+1)) Qb Qk Qd Yb Ya)) else (none)) else (Qn.l0 Wq (Qb.length:Int) false (wrap64 (QY+1)) Qb Qk Qd Yb Ya))=some r:=H;have A24:=Q0.mk qki;clear qki
            by_cases c25:qcX=true
            ·
             subst c25
             have H1:(if QY<(Qd.length:Int) then ((Qj.f (rd Qd QY) 0 100).bind fun Xu=>(Qn.l0 Wq (Qb.length:Int) Xu (wrap64 (QY+1)) Qb Qk Qd Yb Ya)) else (none))=some r:=by rw [if_pos rfl] at H;exact H
             clear H;have H:=H1;clear H1
             by_cases c26:QY<(Qd.length:Int)
             ·
              rw [if_pos c26] at H;have c26b0:decide (QY<(Qd.length:Int))=true:=decide_eq_true c26;clear c26;replace H:=Option.bind_eq_some_iff.mp H;obtain ⟨Xu,qqw,H⟩:=H;replace H:(Qn.l0 Wq (Qb.length:Int) Xu (wrap64 (QY+1)) Qb Qk Qd Yb Ya)=some r:=H;have A27:=Q0.mk qqw;clear qqw;have H':=Q0.mk H;clear H;have qdG:wc.cell? ⟨ZP,0,none⟩=some (.slice Y5 Qb.length QK):=(Q8 Ys.out 0).trans rfl;have qdH:wc.cell? ⟨ZP,1,none⟩=some (.slice Y2 Qk.length QM):=(Q8 Ys.out 1).trans rfl;have quh:wc.cell? ⟨ZP,2,none⟩=some (.slice Y7 Qd.length QN):=(Q8 Ys.out 2).trans rfl;have qui:wc.cell? ⟨ZP,3,none⟩=some (.int .i64 Yb):=(Q8 Ys.out 3).trans rfl;have quj:wc.cell? ⟨ZP,4,none⟩=some (.int .i64 Ya):=(Q8 Ys.out 4).trans rfl;have qdU:=Qa Ys.out 0;have qdV:=Qa Ys.out 1;have qwj:=Qa Ys.out 2;have qwk:=Qa Ys.out 3;have qwl:=Qa Ys.out 4;have qcz:0≤(QY:Int):=of_decide_eq_true (by first|(with_reducible assumption)|assumption);have qcA:QY<(Qb.length:Int):=of_decide_eq_true (by first|(with_reducible assumption)|assumption);obtain ⟨qo0,qkV,KF⟩:=Kd.at_int Jt.out QY qcz qcA;cases qkV;replace KF:=(HB.out.cell (World.block_lt_of_cell? w _ KF)).trans KF;replace qcz:=eq_true qcz;replace qcA:=eq_true qcA
              go_wp2_with (first|((with_reducible refine Qz (f:=65) rfl ?_);refine Yo (some 56) rfl rfl Try.func65 (by kernel_rfl) rfl #[.int .i64 (rd Qb QY),.int .i64 0,.int .i64 100000] rfl (by (try simp only [List.map_toArray,List.map_cons,List.map_nil]);first|done|rfl|(simp only [List.length_drop,List.length_take];rfl)) ?_;(with_reducible refine (Qj.calls (rd Qb QY) 0 100000 true _ A21.out).mono ?_);rintro e w' ⟨rfl,⟨nd,rfl⟩⟩;refine ⟨_,rfl,?_⟩;have qg2:0≤(QY:Int):=of_decide_eq_true (by first|(with_reducible assumption)|assumption);have qhf:QY<(Qk.length:Int):=of_decide_eq_true (by first|(with_reducible assumption)|assumption);obtain ⟨qrt,qpF,UV⟩:=Kd.at_int JI.out QY qg2 qhf;cases qpF;replace UV:=(HB.out.cell (World.block_lt_of_cell? w _ UV)).trans UV;replace qg2:=eq_true qg2;replace qhf:=eq_true qhf)|(go_at_call 65;(with_reducible refine (Qj.calls (rd Qk QY) 0 1000 true _ A24.out).mono ?_);rintro e w' ⟨rfl,⟨nd,rfl⟩⟩;have qqa:0≤(QY:Int):=of_decide_eq_true (by first|(with_reducible assumption)|assumption);have qqh:QY<(Qd.length:Int):=of_decide_eq_true (by first|(with_reducible assumption)|assumption);obtain ⟨qBT,e152,qd3⟩:=Kd.at_int JJ.out QY qqa qqh;cases e152;replace qd3:=(HB.out.cell (World.block_lt_of_cell? w _ qd3)).trans qd3;replace qqa:=eq_true qqa;replace qqh:=eq_true qqh)|(go_at_call 65;(with_reducible refine (Qj.calls (rd Qd QY) 0 100 Xu _ A27.out).mono ?_);rintro e w' ⟨rfl,⟨nd,rfl⟩⟩))
              go_roundg Wq
              case measure=>have:=HJ1.out;have:=HK2.out;have:=qi4.out;omega
              case rel=>exact ⟨(Xu),(wrap64 (QY+1)),(by first|rfl|(simp;done)|(simp [*];done)),(by first|rfl|(simp;done)|(simp [*];done)),H',⟨by have:=HJ1.out;have:=HK2.out;have:=qi4.out;omega⟩,⟨by (with_reducible repeat (first|refine Q5 ?_ _|refine Q6 ?_|refine Q3 ?_ _));exact Ys.out⟩,⟨by repeat (first|(with_reducible first|exact HB.out|apply Q2|apply Q1|apply Q4|refine Q7 ?_ W8.out)|exact HB.out)⟩⟩
             rw [if_neg c26] at H
             exact absurd H (by simp)
            replace c25:=Bool.eq_false_iff.mpr c25;subst c25
            have H1:(Qn.l0 Wq (Qb.length:Int) false (wrap64 (QY+1)) Qb Qk Qd Yb Ya)=some r:=by rw [if_neg (show ¬ (false=true) by decide)] at H;exact H
            clear H;have H:=H1;clear H1;have H':=Q0.mk H;clear H;have qmw:wc.cell? ⟨ZP,0,none⟩=some (.slice Y5 Qb.length QK):=(Q8 Ys.out 0).trans rfl;have qmx:wc.cell? ⟨ZP,1,none⟩=some (.slice Y2 Qk.length QM):=(Q8 Ys.out 1).trans rfl;have qmy:wc.cell? ⟨ZP,2,none⟩=some (.slice Y7 Qd.length QN):=(Q8 Ys.out 2).trans rfl;have quk:wc.cell? ⟨ZP,3,none⟩=some (.int .i64 Yb):=(Q8 Ys.out 3).trans rfl;have qul:wc.cell? ⟨ZP,4,none⟩=some (.int .i64 Ya):=(Q8 Ys.out 4).trans rfl;have qm8:=Qa Ys.out 0;have qm9:=Qa Ys.out 1;have qna:=Qa Ys.out 2;have qwm:=Qa Ys.out 3;have qwn:=Qa Ys.out 4;have qcz:0≤(QY:Int):=of_decide_eq_true (by first|(with_reducible assumption)|assumption);have qcA:QY<(Qb.length:Int):=of_decide_eq_true (by first|(with_reducible assumption)|assumption);obtain ⟨qo0,qkV,KF⟩:=Kd.at_int Jt.out QY qcz qcA;cases qkV;replace KF:=(HB.out.cell (World.block_lt_of_cell? w _ KF)).trans KF;replace qcz:=eq_true qcz;replace qcA:=eq_true qcA
            go_wp2_with (first|((with_reducible refine Qz (f:=65) rfl ?_);refine Yo (some 56) rfl rfl Try.func65 (by kernel_rfl) rfl #[.int .i64 (rd Qb QY),.int .i64 0,.int .i64 100000] rfl (by (try simp only [List.map_toArray,List.map_cons,List.map_nil]);first|done|rfl|(simp only [List.length_drop,List.length_take];rfl)) ?_;(with_reducible refine (Qj.calls (rd Qb QY) 0 100000 true _ A21.out).mono ?_);rintro e w' ⟨rfl,⟨nd,rfl⟩⟩;refine ⟨_,rfl,?_⟩;have qg2:0≤(QY:Int):=of_decide_eq_true (by first|(with_reducible assumption)|assumption);have qhf:QY<(Qk.length:Int):=of_decide_eq_true (by first|(with_reducible assumption)|assumption);obtain ⟨qrt,qpF,UV⟩:=Kd.at_int JI.out QY qg2 qhf;cases qpF;replace UV:=(HB.out.cell (World.block_lt_of_cell? w _ UV)).trans UV;replace qg2:=eq_true qg2;replace qhf:=eq_true qhf)|(go_at_call 65;(with_reducible refine (Qj.calls (rd Qk QY) 0 1000 false _ A24.out).mono ?_);rintro e w' ⟨rfl,⟨nd,rfl⟩⟩))
            go_roundg Wq
            case measure=>have:=HJ1.out;have:=HK2.out;have:=qi4.out;omega
            case rel=>exact ⟨(false),(wrap64 (QY+1)),(by first|rfl|(simp;done)|(simp [*];done)),(by first|rfl|(simp;done)|(simp [*];done)),H',⟨by have:=HJ1.out;have:=HK2.out;have:=qi4.out;omega⟩,⟨by (with_reducible repeat (first|refine Q5 ?_ _|refine Q6 ?_|refine Q3 ?_ _));exact Ys.out⟩,⟨by repeat (first|(with_reducible first|exact HB.out|apply Q2|apply Q1|apply Q4|refine Q7 ?_ W8.out)|exact HB.out)⟩⟩
           rw [if_neg c23] at H
           exact absurd H (by simp)
          replace c22:=Bool.eq_false_iff.mpr c22;subst c22
          have H1:(Qn.l0 Wq (Qb.length:Int) false (wrap64 (QY+1)) Qb Qk Qd Yb Ya)=some r:=by rw [if_neg (show ¬ (false=true) by decide)] at H;exact H
          clear H;have H:=H1;clear H1;have H':=Q0.mk H;clear H;have qum:wc.cell? ⟨ZP,0,none⟩=some (.slice Y5 Qb.length QK):=(Q8 Ys.out 0).trans rfl;have qun:wc.cell? ⟨ZP,1,none⟩=some (.slice Y2 Qk.length QM):=(Q8 Ys.out 1).trans rfl;have qup:wc.cell? ⟨ZP,2,none⟩=some (.slice Y7 Qd.length QN):=(Q8 Ys.out 2).trans rfl;have quq:wc.cell? ⟨ZP,3,none⟩=some (.int .i64 Yb):=(Q8 Ys.out 3).trans rfl;have qur:wc.cell? ⟨ZP,4,none⟩=some (.int .i64 Ya):=(Q8 Ys.out 4).trans rfl;have qwo:=Qa Ys.out 0;have qwp:=Qa Ys.out 1;have qwq:=Qa Ys.out 2;have qwr:=Qa Ys.out 3;have qws:=Qa Ys.out 4;have qcz:0≤(QY:Int):=of_decide_eq_true (by first|(with_reducible assumption)|assumption);have qcA:QY<(Qb.length:Int):=of_decide_eq_true (by first|(with_reducible assumption)|assumption);obtain ⟨qo0,qkV,KF⟩:=Kd.at_int Jt.out QY qcz qcA;cases qkV;replace KF:=(HB.out.cell (World.block_lt_of_cell? w _ KF)).trans KF;replace qcz:=eq_true qcz;replace qcA:=eq_true qcA
          go_wp2_with (first|((with_reducible refine Qz (f:=65) rfl ?_);refine Yo (some 56) rfl rfl Try.func65 (by kernel_rfl) rfl #[.int .i64 (rd Qb QY),.int .i64 0,.int .i64 100000] rfl (by (try simp only [List.map_toArray,List.map_cons,List.map_nil]);first|done|rfl|(simp only [List.length_drop,List.length_take];rfl)) ?_;(with_reducible refine (Qj.calls (rd Qb QY) 0 100000 false _ A21.out).mono ?_);rintro e w' ⟨rfl,⟨nd,rfl⟩⟩;refine ⟨_,rfl,?_⟩))
          go_roundg Wq
          case measure=>have:=HJ1.out;have:=HK2.out;have:=qi4.out;omega
          case rel=>exact ⟨(false),(wrap64 (QY+1)),(by first|rfl|(simp;done)|(simp [*];done)),(by first|rfl|(simp;done)|(simp [*];done)),H',⟨by have:=HJ1.out;have:=HK2.out;have:=qi4.out;omega⟩,⟨by (with_reducible repeat (first|refine Q5 ?_ _|refine Q6 ?_|refine Q3 ?_ _));exact Ys.out⟩,⟨by repeat (first|(with_reducible first|exact HB.out|apply Q2|apply Q1|apply Q4|refine Q7 ?_ W8.out)|exact HB.out)⟩⟩
         rw [if_neg c20] at H
         exact absurd H (by simp)
        rw [if_neg c19] at H
        exact absurd H (by simp)
       replace c18:=Bool.eq_false_iff.mpr c18;subst c18
       have H1:(some OL)=some r:=by rw [if_neg (show ¬ (false=true) by decide)] at H;exact H
       clear H;have H:=H1;clear H1;obtain rfl:=Option.some.inj H
       go_wp2
       go_ret
       exact ⟨by first|rfl|(simp [Qv,Qw]<;>rfl)|(simp [*,Qv,Qw]<;>rfl),by repeat (first|(with_reducible first|exact HB.out|apply Q2|apply Q1|apply Q4|refine Q7 ?_ W8.out)|exact HB.out)⟩
end
section
set_option maxRecDepth 100000 in
theorem Z9.calls6 (A0:Option Addr) (c0:Nat) (l0:List Int) (A1:Option Addr) (c1 n1:Nat) (A2:Option Addr) (c2 n2:Nat) (a3 a4:Int) (w:World) (hr0:Kd.C (Kd.int .i64) w A0 l0.length l0) (hl:l0.length≤6) :
  Calls Try.prog 78 #[.agg #[.slice A0 l0.length c0,.slice A1 n1 c1,.slice A2 n2 c2,.int .i64 a3,.int .i64 a4]] w fun e w'=>e = .returned (.agg (ar6 l0).toArray)∧Below w.heap.size w w':=by
 have hu:=Try.underlying111
 have hu2:=Try.underlying39
 have hu3:=Try.underlying115
 have HL:=Q0.mk hl
 have HR0:=Q0.mk hr0
 clear hr0 hl
 go_enter Try.func78,Try.ntmps78
 go_wp2
 go_region_law (refine step_copy_splice rfl (.tmp 4) (.tmp 7) 37 37 rfl 3 Try.underlying37 (by kernel_rfl) (some ⟨w.heap.size+1+1,0,none⟩) A0 6 6 l0.length c0 rfl rfl (w.heap.size+1+1) 0 (ar6 []) 115 ?c1 (l0.map (Value.int .i64)) (qnP HL.out) ?c2 ?c3 (qnQ l0) (w.heap.size+2) _ (Below.refl _ _) (Nat.le_refl _) ?_;(case c1=>exact Q6 (by have h:=OQ (((w.alloc (.cells #[.slice A0 l0.length c0,.slice A1 n1 c1,.slice A2 n2 c2,.int .i64 a3,.int .i64 a4] 111)).alloc (.cells (ar6 []).toArray 115))) (.cells (ar6 []).toArray 115);simp only [World.size_alloc] at h;exact h));(case c2=>exact fun h0=>⟨rfl,Xy HR0.out (by repeat (first|exact Below.refl _ _|apply Yl|apply Q2)) h0⟩);(case c3=>simpa [ar6] using HL.out);intro w4 hg4 hb4)
 have HG:=Q0.mk (show Is6 w4 (w.heap.size+1+1) l0 by have h:=hg4;unfold Hid at h;rw [qhq l0 HL.out] at h;exact h)
 have HZ:Is6 w4 (w.heap.size+1) []:=(hb4.block (w.heap.size+1) (by omega)).trans (Q6 (Q3 (by have h:=OQ (w.alloc (.cells #[.slice A0 l0.length c0,.slice A1 n1 c1,.slice A2 n2 c2,.int .i64 a3,.int .i64 a4] 111)) (.cells (ar6 []).toArray 115);simp only [World.size_alloc] at h;exact h) _))
 have HZ:=Q0.mk HZ
 have HB:=Q0.mk (show Below w.heap.size w w4 from (Yl (Q2 (Q2 (Q2 (Below.refl w.heap.size w) _) _) _)).trans (hb4.mono (by omega)))
 clear hg4 hb4
 obtain ⟨g0,g1,g2,g3,g4,g5⟩:=HG.out.cells
 obtain ⟨z0,z1,z2,z3,z4,z5⟩:=HZ.out.cells
 obtain ⟨f0,f1,f2,f3,f4,f5⟩:=HZ.out.frozen
 go_wp2
 refine bodyPost_ret (results_cell_row rfl _ _ (w.heap.size+1) 115 (ar6 l0).toArray (0,0) _ rfl (HZ.out.put6 l0) Try.underlying115 rfl (by kernel_rfl)) rfl ?_
 refine ⟨rfl,?_⟩
 have h1:w.heap.size≤w.heap.size+1:=by omega
 repeat (with_reducible first|exact HB.out|refine Q7 ?_ h1)
def Z9.f (Qb Qk Qd:List Int) (Yb Ya:Int):Option (Int × Int × Int × Int × Int × Int) :=
 if Qb.length≤6 then some (rd Qb 0,rd Qb 1,rd Qb 2,rd Qb 3,rd Qb 4,rd Qb 5) else none
theorem Z9.calls (Y5:Option Addr) (QK:Nat) (Qb:List Int) (Y2:Option Addr) (QM:Nat) (Qk:List Int) (Y7:Option Addr) (QN:Nat) (Qd:List Int) (Yb Ya r1 r2 r3 r4 r5 r6:Int) (w:World)
  (Gy:Kd.C (Kd.int .i64) w Y5 Qb.length Qb) (GI:Qb.length≤QK) (Gz:Kd.C (Kd.int .i64) w Y2 Qk.length Qk) (GJ:Qk.length≤QM) (GA:Kd.C (Kd.int .i64) w Y7 Qd.length Qd) (GK:Qd.length≤QN)
  (h:Z9.f Qb Qk Qd Yb Ya=some (r1,r2,r3,r4,r5,r6)) :
  Calls Try.prog 78 #[.agg #[.slice Y5 Qb.length QK,.slice Y2 Qk.length QM,.slice Y7 Qd.length QN,.int .i64 Yb,.int .i64 Ya]] w fun e w' =>
   e = .returned (.agg #[.int .i64 r1,.int .i64 r2,.int .i64 r3,.int .i64 r4,.int .i64 r5,.int .i64 r6])∧Below w.heap.size w w':=by
 unfold Z9.f at h
 by_cases hv:Qb.length≤6
 ·
  rw [if_pos hv] at h
  injection h with h
  simp only [Prod.mk.injEq] at h
  obtain ⟨rfl,rfl,rfl,rfl,rfl,rfl⟩:=h
  exact Z9.calls6 Y5 QK Qb Y2 QM Qk.length Y7 QN Qd.length Yb Ya w Gy hv
 ·
  rw [if_neg hv] at h
  exact absurd h (by simp)
end
end Go.Proofs.Ytmhomdohhihlcaa.P
