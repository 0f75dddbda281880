/- What the statement StockSpared leans on, part 2 of 5: contracts of the program's functions; conditions: none. -/
import Derived.Laws.EntriesVeiled
import Derived.WalkMore
import Derived.StillTailTactics
import Derived.Lib.SliceRun
import Derived.Deep.RegionLaw
import Derived.Test.YtmhomdohhihlcaaStockSparedx0
set_option linter.unusedVariables false
set_option linter.unusedSimpArgs false
set_option linter.constructorNameAsVariable false
set_option linter.unusedSectionVars false
namespace Go.Proofs.Ytmhomdohhihlcaa.P
open Go.RowKit Go.Proofs.YtmhomdohhihlcaaW.PrintWords Go.Proofs.YtmhomdohhihlcaaW.PrintLast Go.Proofs.YtmhomdohhihlcaaW.PrintMore
section
def wi (a b c:Int):Bool:=decide (b≤a∧a≤c)
theorem Og {a b c:Int}:wi a b c=true↔b≤a∧a≤c:=by simp [wi]
theorem OC (a b c:Int) (w:World):Calls Try.prog 65 #[.int .i64 a,.int .i64 b,.int .i64 c] w fun e w'=>e = .returned (.bool (wi a b c))∧Yg w w':=by
 refine Qj.calls a b c (wi a b c) w ?_
 unfold Qj.f wi
 by_cases h:b≤a
 ·
  rw [if_pos h];simp [h]
 ·
  rw [if_neg h];simp [h]
def Qn.okc:List YQ→Bool→Bool
 | [],b=>b
 | c::cs,b=>Qn.okc cs (b&&wi c.f0 0 10000&&wi c.f1 0 10000)
def Qn.rowf (m:Int):List Int→Int→Int→Option Int
 | [],_,acc=>some acc
 | c::cs,last,acc=>if wi c (last+1) (m-1)=true then Qn.rowf m cs c (Go.bits .or .i64 acc (shl .i64 1 c)) else none
def Qn.rows (m:Int):List (List Int)→Option (List Int)
 | []=>some []
 | l::ls=>(Qn.rowf m l (-1) 0).bind fun x=>(Qn.rows m ls).map (x :: ·)
def Qn.tries (cells:List YQ) (sets:List Int):Nat→Nat→BSt→BSt
 | 0,_,st=>st
 | k+1,many,st=>Qn.tries cells sets k (many+1) (Qn.cz cells sets (many:Int) sets.length [] 0 st)
def Qn.g (l0:List YQ) (l1:List (List Int)) (a2:Int):List Int × Int × Int × Int :=
 match Qn.rows (l0.length:Int) l1 with
 | none=>([],0,0,94)
 | some sets =>
  if Qn.okc l0 (decide ((l0.length:Int)≤12)&&decide ((l1.length:Int)≤8))=true then
   if wi a2 0 8=true then
    ((Qn.tries l0 sets (min a2.toNat sets.length+1) 0 ⟨[],0,0⟩).ch,(Qn.tries l0 sets (min a2.toNat sets.length+1) 0 ⟨[],0,0⟩).sp,(Qn.tries l0 sets (min a2.toNat sets.length+1) 0 ⟨[],0,0⟩).lo,0)
   else ([],0,0,7)
  else ([],0,0,94)
def Qn.f (l0:List YQ) (l1:List (List Int)) (a2:Int):Option (List Int × Int × Int × Int) :=
 if l1.length≤35184372088832 then some (Qn.g l0 l1 a2) else none
structure Bx0 (w W:World):Prop where
 c:W.heap[w.heap.size]? = some (.cells #[.slice none 0 0] 37 (0,0))
 s:W.heap[w.heap.size+1]? = some (.cells #[.int .i64 0] 3 (0,0))
 l:W.heap[w.heap.size+1+1]? = some (.cells #[.int .i64 0] 3 (0,0))
 below:Below w.heap.size w W
theorem Bx0.keep {w W W1:World} (h:Bx0 w W) (hb:Below W.heap.size W W1):Bx0 w W1:=⟨Qe h.c hb,Qe h.s hb,Qe h.l hb,h.below.trans (hb.mono h.below.size)⟩
theorem Bx0.start (w:World):Bx0 w (((w.alloc (.cells #[.slice none 0 0] 37)).alloc (.cells #[.int .i64 0] 3)).alloc (.cells #[.int .i64 0] 3)):=by
 refine ⟨Q2 (Q2 (World.alloc_heap_new w _) _) _,Q2 ?_ _,?_,Q3 (Q3 (Q3 (Below.refl _ _) _) _) _⟩
 ·
  have:=World.alloc_heap_new (w.alloc (.cells #[.slice none 0 0] 37)) (.cells #[.int .i64 0] 3)
  rwa [World.size_alloc] at this
 ·
  have:=World.alloc_heap_new ((w.alloc (.cells #[.slice none 0 0] 37)).alloc (.cells #[.int .i64 0] 3)) (.cells #[.int .i64 0] 3)
  rwa [World.size_alloc,World.size_alloc] at this
theorem Bx0.again {w W:World} (h:Bx0 w W):Bx0 w (((W.setCell ⟨w.heap.size,0,none⟩ (.slice none 0 0)).setCell ⟨w.heap.size+1,0,none⟩ (.int .i64 0)).setCell ⟨w.heap.size+1+1,0,none⟩ (.int .i64 0)) :=
  ⟨Qk (Qk (Qu h.c 0 _ rfl) (p:=⟨w.heap.size+1,0,none⟩) (by simp) _) (p:=⟨w.heap.size+1+1,0,none⟩) (by simp;omega) _,
   Qk (Qu (Qk h.s (p:=⟨w.heap.size,0,none⟩) (by simp) _) 0 _ rfl) (p:=⟨w.heap.size+1+1,0,none⟩) (by simp) _,
   Qu (Qk (Qk h.l (p:=⟨w.heap.size,0,none⟩) (by simp;omega) _) (p:=⟨w.heap.size+1,0,none⟩) (by simp) _) 0 _ rfl,
   Q5 (Q5 (Q5 h.below (Nat.le_refl _)) (by omega)) (by omega)⟩
theorem results40 (tmps:Array Value) (W:World) (g1 g2 g3:Nat) (v1:Value) (n2 n3:Int) (h6:tmps.getD 6 undef = .pointer (some ⟨g1,0,none⟩)) (h7:tmps.getD 7 undef = .pointer (some ⟨g2,0,none⟩)) (h8:tmps.getD 8 undef = .pointer (some ⟨g3,0,none⟩))
  (k1:W.heap[g1]? = some (.cells #[v1] 37 (0,0))) (k2:W.heap[g2]? = some (.cells #[.int .i64 n2] 3 (0,0))) (k3:W.heap[g3]? = some (.cells #[.int .i64 n3] 3 (0,0))) :
  (results Try.f40 tmps).run Try.prog W = .ok (.tuple #[v1,.int .i64 n2,.int .i64 n3,tmps.getD 9 undef]) W:=by
 have c1:W.cell? ⟨g1,0,none⟩=some v1:=(Q8 k1 0).trans rfl
 have c2:W.cell? ⟨g2,0,none⟩=some (.int .i64 n2):=(Q8 k2 0).trans rfl
 have c3:W.cell? ⟨g3,0,none⟩=some (.int .i64 n3):=(Q8 k3 0).trans rfl
 have h6':tmps[6]?.getD undef = .pointer (some ⟨g1,0,none⟩):=by simpa using h6
 have h7':tmps[7]?.getD undef = .pointer (some ⟨g2,0,none⟩):=by simpa using h7
 have h8':tmps[8]?.getD undef = .pointer (some ⟨g3,0,none⟩):=by simpa using h8
 simp [results,Try.results40,asAddr,h6',h7',h8',go_sem,c1,c2,c3]
theorem qfX:∀ (l:List YQ) (b:Bool),Qn.okc l b=true→b=true
 | [],b,h=>h
 | c::cs,b,h=>by
  have:=qfX cs _ h
  cases b with
  | true=>rfl
  | false=>simp at this
structure Bx1 (w:World) (tb n ct:Nat) (At:Option Addr) (sl:List Int) (W:World):Prop where
 x:Bx0 w W
 t:W.heap[tb]? = some (.cells #[.slice At n ct] 137 (0,0))
 r:Kd.R (Kd.int .i64) 139 W w.heap.size (fun _=>True) (.slice At n ct) sl
theorem Bx1.keep {w W W1:World} {tb n ct:Nat} {At:Option Addr} {sl:List Int} (h:Bx1 w tb n ct At sl W) (hb:Below W.heap.size W W1):Bx1 w tb n ct At sl W1:=⟨h.x.keep hb,Qe h.t hb,Kd.R_below h.r hb⟩
theorem Bx1.put {w W:World} {tb n ct tr:Nat} {sl:List Int} (h:Bx1 w tb n ct (some ⟨tr,0,none⟩) sl W) (i:Nat) (x:Int):Bx1 w tb n ct (some ⟨tr,0,none⟩) (sl.set i x) (W.setCell ⟨tr,i,none⟩ (.int .i64 x)):=by
 obtain ⟨cs,hcs⟩:=Kd.R_typed h.r tr rfl
 have hne:∀ {g t:Nat} {c:Array Value},W.heap[g]? = some (.cells c t (0,0))→t≠139→g≠tr:=fun {g t c} hg ht e=>by
  rw [e,hcs] at hg
  injection hg with hg
  injection hg with _ hg
  exact ht hg.symm
 have hbt:w.heap.size≤tr:=Kd.R_base h.r tr rfl
 have h1:=(Kd.R_putg h.r (i:Int) x).1
 rw [Int.toNat_natCast] at h1
 exact ⟨⟨Qk h.x.c (p:=⟨tr,i,none⟩) (hne h.x.c (by decide)) _,Qk h.x.s (p:=⟨tr,i,none⟩) (hne h.x.s (by decide)) _,Qk h.x.l (p:=⟨tr,i,none⟩) (hne h.x.l (by decide)) _,Q5 h.x.below hbt⟩,Qk h.t (p:=⟨tr,i,none⟩) (hne h.t (by decide)) _,h1⟩
theorem qdz {W:World} {g g' t t':Nat} {c c':Array Value} (h:W.heap[g]? = some (.cells c t (0,0))) (h':W.heap[g']? = some (.cells c' t' (0,0))) (ht:t≠t'):g≠g':=fun e=>by
 rw [e,h'] at h
 injection h with h
 injection h with _ h
 exact ht h.symm
theorem Bx1.ready {w W:World} {tb n ct c:Nat} {At A:Option Addr} {sl:List Int} {l0:List YQ} (h:Bx1 w tb n ct At sl W) (hn:sl.length=n) (hC:Kd.C W7 w A l0.length l0) (hc:l0.length≤c) :
  BxI w.heap.size (W.heap.size+1) (w.heap.size+1) (w.heap.size+1+1) w.heap.size tb (W.heap.size+1+1) W.heap.size A c l0 At ct sl
   (((W.alloc (.map #[] 0)).alloc (.cells #[.slice A l0.length c,.map (some W.heap.size)] 142)).alloc (.cells #[.func (.func 90) #[] #[.pointer (some ⟨W.heap.size+1,0,none⟩),.pointer (some ⟨w.heap.size+1,0,none⟩),.pointer (some ⟨w.heap.size+1+1,0,none⟩),.pointer (some ⟨w.heap.size,0,none⟩),.pointer (some ⟨tb,0,none⟩),.pointer (some ⟨W.heap.size+1+1,0,none⟩)]] 143)) ⟨[],0,0⟩:=by
 subst hn
 obtain ⟨Wf,hWf⟩:∃ Wf,(((W.alloc (.map #[] 0)).alloc (.cells #[.slice A l0.length c,.map (some W.heap.size)] 142)).alloc (.cells #[.func (.func 90) #[] #[.pointer (some ⟨W.heap.size+1,0,none⟩),.pointer (some ⟨w.heap.size+1,0,none⟩),.pointer (some ⟨w.heap.size+1+1,0,none⟩),.pointer (some ⟨w.heap.size,0,none⟩),.pointer (some ⟨tb,0,none⟩),.pointer (some ⟨W.heap.size+1+1,0,none⟩)]] 143))=Wf:=⟨_,rfl⟩
 have hb:Below W.heap.size W Wf:=by rw [← hWf];exact Q3 (Q3 (Q3 (Below.refl _ _) _) _) _
 have hm:Wf.heap[W.heap.size]? = some (.map #[] 0):=by rw [← hWf];exact Q2 (Q2 (World.alloc_heap_new W _) _) _
 have hs:Wf.heap[W.heap.size+1]? = some (.cells #[.slice A l0.length c,.map (some W.heap.size)] 142 (0,0)):=by
  rw [← hWf]
  refine Q2 ?_ _
  have:=World.alloc_heap_new (W.alloc (.map #[] 0)) (.cells #[.slice A l0.length c,.map (some W.heap.size)] 142)
  rwa [World.size_alloc] at this
 have hf:Wf.heap[W.heap.size+1+1]? = some (.cells #[.func (.func 90) #[] #[.pointer (some ⟨W.heap.size+1,0,none⟩),.pointer (some ⟨w.heap.size+1,0,none⟩),.pointer (some ⟨w.heap.size+1+1,0,none⟩),.pointer (some ⟨w.heap.size,0,none⟩),.pointer (some ⟨tb,0,none⟩),.pointer (some ⟨W.heap.size+1+1,0,none⟩)]] 143 (0,0)):=by
  rw [← hWf]
  have:=World.alloc_heap_new ((W.alloc (.map #[] 0)).alloc (.cells #[.slice A l0.length c,.map (some W.heap.size)] 142)) (.cells #[.func (.func 90) #[] #[.pointer (some ⟨W.heap.size+1,0,none⟩),.pointer (some ⟨w.heap.size+1,0,none⟩),.pointer (some ⟨w.heap.size+1+1,0,none⟩),.pointer (some ⟨w.heap.size,0,none⟩),.pointer (some ⟨tb,0,none⟩),.pointer (some ⟨W.heap.size+1+1,0,none⟩)]] 143)
  rwa [World.size_alloc,World.size_alloc] at this
 rw [hWf]
 have qC5:=QL h.x.l
 have hltt:=QL h.t
 have hbw:Below w.heap.size w Wf:=h.x.below.trans (hb.mono h.x.below.size)
 have hrow:Kd.R (Kd.int .i64) 139 Wf w.heap.size (fun k => ¬ BxS (w.heap.size+1) (w.heap.size+1+1) w.heap.size W.heap.size k) (.slice At sl.length ct) sl:=by
  refine Kd.R_mono (Kd.R_bound (Kd.R_below h.r hb)) (fun k hk e => ?_)
  obtain ⟨_,_,_,q,hq,cs,hcs⟩:=hk
  have hq9:q=139:=by simpa [Kd.int,Kd.scalar] using hq
  subst hq9
  rcases e with e|e|e|e
  ·
   exact qdz hcs (Qe h.x.s hb) (by decide) e
  ·
   exact qdz hcs (Qe h.x.l hb) (by decide) e
  ·
   exact qdz hcs (Qe h.x.c hb) (by decide) e
  ·
   rw [e,hm] at hcs
   cases hcs
 refine ⟨hs,Qe h.x.s hb,Qe h.x.l hb,⟨_,Qe h.x.c hb,Kd.R_nil _ _ _ _ _⟩,Qe h.t hb,hf,hrow,⟨_,_,hm,fun e he=>by simp at he⟩,Kd.C_below hC hbw,hc,⟨by omega,by omega,by omega,by omega⟩,
  ⟨qdz h.t h.x.s (by decide),qdz h.t h.x.l (by decide),qdz h.t h.x.c (by decide),by omega⟩,⟨by omega,by omega,by omega,by omega⟩,⟨by omega,by omega,by omega,by omega,by omega,by omega⟩,⟨by omega,by omega,by omega,by omega⟩,fun W' hb'=>Kd.C_below hC (hbw.trans hb')⟩
theorem qnf:(Try.prog.info? 139).map (fun i=>(i.zero,i.size,i.bytes))=some (some (.agg #[.int .i64 0]),1,8):=by kernel_rfl
set_option maxHeartbeats 8000000 in
set_option maxRecDepth 100000 in
theorem Qn.calls (A0:Option Addr) (c0:Nat) (l0:List YQ) (A1:Option Addr) (c1:Nat) (l1:List (List Int)) (a2:Int) (r1:List Int) (r2 r3 r4:Int) (w:World) (hr0:Kd.C W7 w A0 l0.length l0) (hc0:l0.length≤c0) (hr1:Kd.C (Kd.slice 3 (Kd.int .i64)) w A1 l1.length l1) (hc1:l1.length≤c1) (h:Qn.f l0 l1 a2=some (r1,r2,r3,r4)) :
  Calls Try.prog 40 #[.slice A0 l0.length c0,.slice A1 l1.length c1,.int .i64 a2] w fun e w' => ∃ v0_,e = .returned (.tuple #[v0_,.int .i64 r2,.int .i64 r3,.int .i64 r4])∧Kd.V (Kd.int .i64) 3 w' w.heap.size (fun k_=>w.heap.size≤k_) v0_ r1∧Below w.heap.size w w':=by
 obtain ⟨hsz,hg⟩:l1.length≤35184372088832∧Qn.g l0 l1 a2=(r1,r2,r3,r4):=by
  unfold Qn.f at h
  by_cases hs:l1.length≤35184372088832
  ·
   rw [if_pos hs] at h
   exact ⟨hs,Option.some.inj h⟩
  ·
   rw [if_neg hs] at h
   cases h
 clear h
 have qC6:l0.length≤9223372036854775807:=hr0.2.1
 have qz4:l1.length≤9223372036854775807:=hr1.2.1
 have HR0:=Q0.mk hr0
 have HR1:=Q0.mk hr1
 have HG:=Q0.mk hg
 have qkS:=Try.underlying136
 obtain ⟨ok,hok⟩:∃ ok,Qn.okc l0 (decide ((l0.length:Int)≤12)&&decide ((l1.length:Int)≤8))=ok:=⟨_,rfl⟩
 have HOK:=Q0.mk hok
 have HX0:=Q0.mk (Bx0.start w)
 obtain ⟨ok1,hok1⟩:∃ b,(decide ((l0.length:Int)≤12)&&decide ((l1.length:Int)≤8))=b:=⟨_,rfl⟩
 rw [hok1] at HOK
 obtain ⟨W0,hW0⟩:∃ W0,((w.alloc (.cells #[.slice none 0 0] 37)).alloc (.cells #[.int .i64 0] 3)).alloc (.cells #[.int .i64 0] 3)=W0:=⟨_,rfl⟩
 rw [hW0] at HX0
 have qjT:=Q0.mk hok1
 clear hr0 hr1 hg hok hok1
 go_enter Try.func40,Try.ntmps40
 go_upto_region 1 with (fail)
 go_cut [10] (fun v10 wc=>v10 = .bool ok1∧wc=W0)
 case first =>
  by_cases h12:(l0.length:Int)≤12
  ·
   have g12:decide ((l0.length:Int)≤12)=true:=decide_eq_true h12
   by_cases h8:(l1.length:Int)≤8
   ·
    have g8:decide ((l1.length:Int)≤8)=true:=decide_eq_true h8
    go_wp2
    go_meet
    case rel=>exact ⟨by rw [← qjT.out,g12,g8];rfl,rfl⟩
   ·
    have g8:decide ((l1.length:Int)≤8)=false:=decide_eq_false h8
    go_wp2
    go_meet
    case rel=>exact ⟨by rw [← qjT.out,g12,g8];rfl,rfl⟩
  ·
   have g12:decide ((l0.length:Int)≤12)=false:=decide_eq_false h12
   go_wp2
   go_meet
   case rel=>exact ⟨by rw [← qjT.out,g12];rfl,rfl⟩
 case rest =>
  obtain ⟨rfl,rfl⟩:=hcut
  go_wp2
  go_loopg [10,32] l0.length (fun d v10 v32 wr => ∃ (b:Bool) (i:Nat),v10 = .bool b∧v32 = .int .i64 (i:Int)∧Q0 (i+d=l0.length)∧Q0 (Qn.okc (l0.drop i) b=ok)∧Q0 (Bx0 w wr))
  case atStart=>exact ⟨ok1,0,rfl,rfl,⟨by omega⟩,⟨by simpa using HOK.out⟩,HX0⟩
  case round =>
   obtain ⟨b,i,rfl,rfl,HD,HO,HX⟩:=hrel
   by_cases hi:i<l0.length
   ·
    obtain ⟨d,rfl⟩:∃ d,gk=d+1:=⟨gk-1,by have:=HD.out;omega⟩;obtain ⟨ad,ea,hx0,hx1⟩:=qbo HR0.out (i:Int) (by omega) (by omega);subst ea;replace hx0:=(HX.out.below.cell (World.block_lt_of_cell? w _ hx0)).trans hx0;replace hx1:=(HX.out.below.cell (World.block_lt_of_cell? w _ hx1)).trans hx1;rw [Int.toNat_natCast] at hx0 hx1
    have ho2:Qn.okc (l0.drop (i+1)) (b&&wi (ZM l0 (i:Int)).f0 0 10000&&wi (ZM l0 (i:Int)).f1 0 10000)=ok:=by
     have h5:=HO.out
     have e:ZM l0 (i:Int)=l0[i]:=by simp [ZM,List.getD_eq_getElem?_getD,List.getElem?_eq_getElem hi]
     rw [List.drop_eq_getElem_cons hi] at h5;rw [e]
     exact h5
    obtain ⟨e0,he0⟩:∃ e0,(ZM l0 (i:Int)).f0=e0:=⟨_,rfl⟩;obtain ⟨e1,he1⟩:∃ e1,(ZM l0 (i:Int)).f1=e1:=⟨_,rfl⟩;rw [he0] at hx0 ho2;rw [he1] at hx1 ho2;have HO2:=Q0.mk ho2;clear ho2 he0 he1 HO
    cases b with
    | false =>
     go_wp2
     go_roundg d
     case measure=>omega
     case rel=>exact ⟨false,i+1,rfl,by simp,⟨by have:=HD.out;omega⟩,⟨by simpa using HO2.out⟩,⟨HX.out.keep (Q3 (Below.refl _ _) _)⟩⟩
    | true =>
     obtain ⟨b1,hb1⟩:∃ b1,wi e0 0 10000=b1:=⟨_,rfl⟩
     cases b1 with
     | false =>
      have HO3:=HO2.out;rw [hb1] at HO3
      go_wp2_with (go_at_call 65;refine (OC _ _ _ _).mono ?_;rintro e w' ⟨rfl,⟨nd,rfl⟩⟩)
      go_roundg d
      case measure=>omega
      case rel=>exact ⟨false,i+1,rfl,by simp,⟨by have:=HD.out;omega⟩,⟨by simpa using HO3⟩,⟨HX.out.keep (Q1 (Q3 (Below.refl _ _) _) _)⟩⟩
     | true =>
      have HO3:=HO2.out;rw [hb1] at HO3
      go_wp2_with (go_at_call 65;refine (OC _ _ _ _).mono ?_;rintro e w' ⟨rfl,⟨nd,rfl⟩⟩)
      go_roundg d
      case measure=>omega
      case rel=>exact ⟨wi e1 0 10000,i+1,rfl,by simp,⟨by have:=HD.out;omega⟩,⟨by simpa using HO3⟩,⟨HX.out.keep (by repeat (first|exact Below.refl _ _|apply Q1|apply Q3))⟩⟩
   ·
    have hio:b=ok:=by
     have h5:=HO.out;rw [List.drop_eq_nil_of_le (by omega)] at h5
     exact h5
    subst hio;clear HD HO
    go_wp2_with ((with_reducible refine qrj (.makeSlice 137 (.tmp 49) (.tmp 49)) rfl ?_);refine Kd.R_make (Kd.int .i64) w.heap.size 139 rfl (N:=50) rfl 137 _ _ rfl (l1.length:Int) rfl rfl Try.underlying137 (.agg #[.int .i64 0]) 8 qnf rfl (by decide) (by omega) 0 (ok:=fun _=>True) (okp:=fun _=>True) rfl (fun _ hk=>hk) trivial (by omega) (by simp;omega) HX.out.below HX.out.below.size ?_;intro v1 w1 hv1 hb1 hg1 hn1;obtain ⟨At,ct,ev,hct,hCt⟩:=Kd.R_reads hv1;rw [List.length_replicate,Int.toNat_natCast] at ev;subst ev)
    clear hi
    have hX1:Bx1 w w1.heap.size l1.length ct At (List.replicate l1.length 0) (w1.alloc (.cells #[.slice At l1.length ct] 137)):=by
     rw [Int.toNat_natCast] at hv1
     exact ⟨(HX.out.keep ((Below.refl _ wr).grown hg1 (Nat.le_refl _) (fun k e=>by cases e))).keep (Q3 (Below.refl _ _) _),World.alloc_heap_new _ _,Kd.R_below hv1 (Q3 (Below.refl _ _) _)⟩
    have hnt:w1.heap.size<(w1.alloc (.cells #[.slice At l1.length ct] 137)).heap.size:=by simp
    have HX1:=Q0.mk hX1;obtain ⟨rr,hrr⟩:∃ rr,Qn.rows (l0.length:Int) l1=rr:=⟨_,rfl⟩;have HRR:=Q0.mk hrr;obtain ⟨tb,htb⟩:∃ tb,w1.heap.size=tb:=⟨_,rfl⟩;rw [htb] at HX1 ⊢;clear hX1 hrr hv1 hb1 hg1 hn1 hct hCt HX hnt
    go_loopg [53] l1.length (fun d v53 wr => ∃ (i:Nat),v53 = .int .i64 (i:Int)∧Q0 (i+d=l1.length)∧Q0 (∃ done:List Int,done.length=i∧rr=(Qn.rows (l0.length:Int) (l1.drop i)).map (done ++ ·)∧Bx1 w tb l1.length ct At (done++List.replicate (l1.length-i) 0) wr))
    case atStart=>exact ⟨0,rfl,⟨by omega⟩,⟨[],rfl,by rw [List.drop_zero,HRR.out];simp,by simpa using HX1.out⟩⟩
    case round =>
     clear HX1 htb;obtain ⟨i,rfl,HD,HE⟩:=hrel;obtain ⟨done,hdl,hdr,hX⟩:=HE.out
     by_cases hi:i<l1.length
     ·
      obtain ⟨d,rfl⟩:∃ d,gk=d+1:=⟨gk-1,by have:=HD.out;omega⟩;obtain ⟨ad,Al,cl,ea,hxl,hcl,hCl⟩:=Wm HR1.out (i:Int) (by omega) (by omega);subst ea;replace hxl:=(hX.x.below.cell (World.block_lt_of_cell? w _ hxl)).trans hxl;rw [Int.toNat_natCast] at hxl;obtain ⟨lst,hlst⟩:∃ lst,QB l1 (i:Int)=lst:=⟨_,rfl⟩;rw [hlst] at hxl hcl hCl
      have hdrop:l1.drop i=lst::l1.drop (i+1):=by
       rw [List.drop_eq_getElem_cons hi,← hlst]
       congr 1
       simp [QB,List.getD_eq_getElem?_getD,List.getElem?_eq_getElem hi]
      have qr6:rr=((Qn.rowf (l0.length:Int) lst (-1) 0).bind fun x=>(Qn.rows (l0.length:Int) (l1.drop (i+1))).map (x :: ·)).map (done ++ ·):=by rw [hdr,hdrop];rfl
      have hrep:List.replicate (l1.length-i) (0:Int)=0::List.replicate (l1.length-(i+1)) 0:=by
       rw [show l1.length-i=(l1.length-(i+1))+1 by omega,List.replicate_succ]
      rw [hrep] at hX;have hmxl:lst.length≤9223372036854775807:=hCl.2.1;have HX:=Q0.mk hX;have HCL:=Q0.mk hCl;have HDL:=Q0.mk hdl;have qqB:=Q0.mk qr6;clear hX hCl hdl qr6 hdr hdrop hrep hlst hcl HE;obtain ⟨wo,hwo⟩:∃ wo:World,wo=wr:=⟨_,rfl⟩;subst hwo
      go_wp2
      go_loopg [16,60] lst.length (fun d2 v16 v60 wr => ∃ (last:Int) (j:Nat) (acc:Int),v16 = .int .i64 last∧v60 = .int .i64 (j:Int)∧Q0 (j+d2=lst.length)∧Q0 (-1≤last∧last<(l0.length:Int)∨last = -1)∧Q0 (Qn.rowf (l0.length:Int) lst (-1) 0=Qn.rowf (l0.length:Int) (lst.drop j) last acc)∧Q0 (Bx1 w tb l1.length ct At (done++acc::List.replicate (l1.length-(i+1)) 0) wr))
      case atStart=>exact ⟨-1,0,0,rfl,rfl,⟨by omega⟩,⟨.inr rfl⟩,⟨by simp⟩,HX⟩
      case round =>
       obtain ⟨last,j,acc,rfl,rfl,HD2,HLA,HRO,HX2⟩:=hrel
       have hla : -1≤last∧last≤9223372036854775806:=by rcases HLA.out with h|h<;>omega
       clear HX
       by_cases hj:j<lst.length
       ·
        obtain ⟨d2,rfl⟩:∃ d2,gk=d2+1:=⟨gk-1,by have:=HD2.out;omega⟩;obtain ⟨adl,eal,hxc⟩:=Kd.at_int (Kd.C_below HCL.out HX2.out.x.below) (j:Int) (by omega) (by omega);subst eal;rw [Int.toNat_natCast] at hxc;obtain ⟨cc,hcc⟩:∃ cc,rd lst (j:Int)=cc:=⟨_,rfl⟩
        have qjf:Qn.rowf (l0.length:Int) lst (-1) 0=if wi cc (last+1) ((l0.length:Int)-1)=true then Qn.rowf (l0.length:Int) (lst.drop (j+1)) cc (Go.bits .or .i64 acc (shl .i64 1 cc)) else none:=by
         rw [HRO.out,List.drop_eq_getElem_cons hj,← hcc]
         have e:rd lst (j:Int)=lst[j]:=by simp [rd,List.getD_eq_getElem?_getD,List.getElem?_eq_getElem hj]
         rw [e]
         rfl
        rw [hcc] at hxc;clear hcc HRO
        by_cases hw:wi cc (last+1) ((l0.length:Int)-1)=true
        ·
         rw [if_pos hw] at qjf;have qqL:=Q0.mk qjf;clear qjf;obtain ⟨hw1,hw2⟩:=Og.1 hw;obtain ⟨tr,cr,er,_,_,_,_⟩:=Kd.R_form HX2.out.r (by simp;omega)
         injection er with e1 e0 e2
         clear e0;subst e1 e2;have hX3:=HX2.out;clear HX2
         have hel:wr.cell? ⟨tr,i,none⟩=some (.int .i64 acc):=by
          obtain ⟨ad2,ea2,hel⟩:=Kd.at_int (Kd.R_reads' hX3.r).2.2 (i:Int) (by omega) (by have:=HDL.out;simp;omega)
          injection ea2 with ea2
          subst ea2;rw [Int.toNat_natCast,KV] at hel;rw [hel];have:=HDL.out
          simp [rd,List.getD_eq_getElem?_getD,this]
         obtain ⟨gcs,hgcs⟩:=Kd.R_typed hX3.r tr rfl;have hef:wr.frozen? ⟨tr,i,none⟩=false:=Q9 hgcs i;have htb:wr.cell? ⟨tb,0,none⟩=some (.slice (some ⟨tr,0,none⟩) l1.length ct):=(Q8 hX3.t 0).trans rfl;obtain ⟨sh,hsh⟩:∃ sh,shl .i64 1 cc=sh:=⟨_,rfl⟩;have hr3:=qqL.out;rw [hsh] at hr3;have qze:=Q0.mk hr3;have hji_:(IntKind.i64.wrap (1*2 ^ min cc.toNat 64))=sh:=hsh;have hjiz:cc≤64→(IntKind.i64.wrap (1*2 ^ cc.toNat))=sh:=qdr hsh
         have hjiu:(IntKind.i64.wrap (2 ^ min cc.toNat 64))=sh:=by have h_:=hji_;rw [Int.one_mul] at h_;exact h_
         have hjiv:cc≤64→(IntKind.i64.wrap (2 ^ cc.toNat))=sh:=fun hle_=>by have h_:=hjiz hle_;rw [Int.one_mul] at h_;exact h_
         obtain ⟨or,hor⟩:∃ o,Go.bits .or .i64 acc sh=o:=⟨_,rfl⟩;have HX3:=Q0.mk hX3;clear hX3 hgcs hsh hr3 qqL
         have qCR:0≤cc:=by omega
         go_wp2_with (go_at_call 65;refine (OC _ _ _ _).mono ?_;rintro e w' ⟨rfl,⟨nd,rfl⟩⟩)
         obtain ⟨w9,hw9⟩:∃ w9,wr.drewN nd=w9:=⟨_,rfl⟩
         have qCX:w9.cell? ⟨tr,i,none⟩=some (.int .i64 acc):=by rw [← hw9];exact hel
         have qCW:w9.frozen? ⟨tr,i,none⟩=false:=by rw [← hw9];exact hef
         have qDu:w9.cell? ⟨tb,0,none⟩=some (.slice (some ⟨tr,0,none⟩) l1.length ct):=by rw [← hw9];exact htb
         have HX9:=Q0.mk (show Bx1 w tb l1.length ct (some ⟨tr,0,none⟩) (done++acc::List.replicate (l1.length-(i+1)) 0) w9 by rw [← hw9];exact HX3.out.keep (Q1 (Below.refl _ _) nd));rw [hw9];clear hw9 hel hef htb HX3
         go_still_tail 10,(by kernel_rfl)
         change wpList _ _ _ _ _ (World.drew _)
         go_wp2
         go_roundg d2
         case measure=>omega
         case rel =>
          have hset:(done++acc::List.replicate (l1.length-(i+1)) 0).set i or=done++or::List.replicate (l1.length-(i+1)) 0:=by
           rw [← HDL.out,List.set_append_right _ _ (Nat.le_refl _),Nat.sub_self,List.set_cons_zero]
          have hput:=HX9.out.put i or;rw [hset] at hput;refine ⟨cc,j+1,or,rfl,by simp,⟨by have:=HD2.out;omega⟩,⟨.inl ⟨by omega,by omega⟩⟩,⟨?_⟩,⟨hput.keep (Yr (Below.refl _ _))⟩⟩;rw [qze.out,hor]
        ·
         replace hw:=Bool.eq_false_iff.mpr hw;rw [if_neg (by rw [hw];decide)] at qjf
         have hrn:rr=none:=by rw [qqB.out,qjf];rfl
         have hg:=HG.out;unfold Qn.g at hg;rw [HRR.out,hrn] at hg;replace hg:(([],0,0,94):List Int × Int × Int × Int)=(r1,r2,r3,r4):=hg
         injection hg with e1 hg
         injection hg with e2 hg
         injection hg with e3 e4
         subst e1 e2 e3 e4;clear qjf hrn;have hcb:wr.cell? ⟨w.heap.size,0,none⟩=some (.slice none 0 0):=(Q8 HX2.out.x.c 0).trans rfl;have hsb:wr.cell? ⟨w.heap.size+1,0,none⟩=some (.int .i64 0):=(Q8 HX2.out.x.s 0).trans rfl;have hlb:wr.cell? ⟨w.heap.size+1+1,0,none⟩=some (.int .i64 0):=(Q8 HX2.out.x.l 0).trans rfl;have hfc:=Q9 HX2.out.x.c 0;have hfs:=Q9 HX2.out.x.s 0;have hfl:=Q9 HX2.out.x.l 0
         go_wp2_with (go_at_call 65;refine (OC _ _ _ _).mono ?_;rintro e w' ⟨rfl,⟨nd,rfl⟩⟩)
         have hXf:=(HX2.out.x.keep (Q1 (Below.refl _ _) nd)).again;refine bodyPost_ret (results40 _ _ _ _ _ (.slice none 0 0) 0 0 rfl rfl rfl hXf.c hXf.s hXf.l) rfl ?_
         exact ⟨_,rfl,Kd.V_nil _ _ _ _ _,hXf.below⟩
       ·
        have hjl:j=lst.length:=by have:=HD2.out;omega
        subst hjl;have hr5:=HRO.out;rw [List.drop_length] at hr5;replace hr5:Qn.rowf (l0.length:Int) lst (-1) 0=some acc:=hr5
        have hr6:rr=(Qn.rows (l0.length:Int) (l1.drop (i+1))).map ((done++[acc]) ++ ·):=by
         rw [qqB.out,hr5]
         cases Qn.rows (l0.length:Int) (l1.drop (i+1)) with
         | none=>rfl
         | some z=>simp
        have HR6:=Q0.mk hr6;clear hr5 hr6 HRO
        go_wp2
        go_roundg d
        case measure=>omega
        case rel =>
         refine ⟨i+1,by simp,⟨by have:=HD.out;omega⟩,⟨done++[acc],by have:=HDL.out;simp;omega,HR6.out,?_⟩⟩;have h7:=HX2.out
         rwa [List.append_cons] at h7
     ·
      have hil:i=l1.length:=by have:=HD.out;omega
      subst hil;rw [List.drop_length] at hdr;replace hdr:rr=some (done++[]):=hdr;rw [List.append_nil] at hdr;rw [Nat.sub_self,List.replicate_zero,List.append_nil] at hX;have hg:=HG.out;unfold Qn.g at hg;rw [HRR.out,hdr] at hg
      replace hg:(if Qn.okc l0 (decide ((l0.length:Int)≤12)&&decide ((l1.length:Int)≤8))=true then
   if wi a2 0 8=true then
    ((Qn.tries l0 done (min a2.toNat done.length+1) 0 ⟨[],0,0⟩).ch,(Qn.tries l0 done (min a2.toNat done.length+1) 0 ⟨[],0,0⟩).sp,(Qn.tries l0 done (min a2.toNat done.length+1) 0 ⟨[],0,0⟩).lo,0)
   else ([],0,0,7)
  else ([],0,0,94))=(r1,r2,r3,r4):=hg
      rw [qjT.out,HOK.out] at hg;have HX:=Q0.mk hX;have HDL:=Q0.mk hdl;clear hX hdl hdr HE
      cases b with
      | false =>
       rw [if_neg (by decide)] at hg
       injection hg with e1 hg
       injection hg with e2 hg
       injection hg with e3 e4
       subst e1 e2 e3 e4;have hcb:wr.cell? ⟨w.heap.size,0,none⟩=some (.slice none 0 0):=(Q8 HX.out.x.c 0).trans rfl;have hsb:wr.cell? ⟨w.heap.size+1,0,none⟩=some (.int .i64 0):=(Q8 HX.out.x.s 0).trans rfl;have hlb:wr.cell? ⟨w.heap.size+1+1,0,none⟩=some (.int .i64 0):=(Q8 HX.out.x.l 0).trans rfl;have hfc:=Q9 HX.out.x.c 0;have hfs:=Q9 HX.out.x.s 0;have hfl:=Q9 HX.out.x.l 0
       go_wp2
       have hXf:=HX.out.x.again;refine bodyPost_ret (results40 _ _ _ _ _ (.slice none 0 0) 0 0 rfl rfl rfl hXf.c hXf.s hXf.l) rfl ?_
       exact ⟨_,rfl,Kd.V_nil _ _ _ _ _,hXf.below⟩
      | true =>
       rw [if_pos rfl] at hg
       by_cases hw8:wi a2 0 8=true
       ·
        rw [if_pos hw8] at hg
        have hn8:done.length≤8:=by
         have h1:=HOK.out;have h1:=qfX _ _ h1;rw [← qjT.out] at h1;have:=HDL.out
         simp at h1
         omega
        obtain ⟨ha0,ha8⟩:=Og.1 hw8;obtain ⟨stF,hstF⟩:∃ stF,Qn.tries l0 done (min a2.toNat done.length+1) 0 ⟨[],0,0⟩=stF:=⟨_,rfl⟩;rw [hstF] at hg
        injection hg with e1 hg
        injection hg with e2 hg
        injection hg with e3 e4
        subst e1 e2 e3 e4;have HST:=Q0.mk hstF;have htb:wr.cell? ⟨tb,0,none⟩=some (.slice At l1.length ct):=(Q8 HX.out.t 0).trans rfl;have hmm:=@run_makeMap Try.prog;have qoH:=Try.underlying142;have hltt:=QL HX.out.t;have hw8b:wi a2 0 8=true:=hw8;clear hstF hw8
        go_upto_region 25 with ((go_at_call 65;refine (OC _ _ _ _).mono ?_;rintro e w' ⟨rfl,⟨nd,rfl⟩⟩))
        obtain ⟨w9,hw9⟩:∃ w9,wr.drewN nd=w9:=⟨_,rfl⟩;have HX9:=Q0.mk (show Bx1 w tb l1.length ct At done w9 by rw [← hw9];exact HX.out.keep (Q1 (Below.refl _ _) nd));rw [hw9];clear hw9 htb HX;have hR:=HX9.out.ready HDL.out HR0.out hc0;obtain ⟨W3,hW3⟩:∃ W3,(((w9.alloc (.map #[] 0)).alloc (.cells #[.slice A0 l0.length c0,.map (some w9.heap.size)] 142)).alloc (.cells #[.func (.func 90) #[] #[.pointer (some ⟨w9.heap.size+1,0,none⟩),.pointer (some ⟨w.heap.size+1,0,none⟩),.pointer (some ⟨w.heap.size+1+1,0,none⟩),.pointer (some ⟨w.heap.size,0,none⟩),.pointer (some ⟨tb,0,none⟩),.pointer (some ⟨w9.heap.size+1+1,0,none⟩)]] 143))=W3:=⟨_,rfl⟩;have hB3:Below w.heap.size w W3:=HX9.out.x.below.trans (by rw [← hW3];exact (Q3 (Q3 (Q3 (Below.refl _ _) _) _) _).mono HX9.out.x.below.size);rw [hW3] at hR;have HR:=Q0.mk hR;have HB3:=Q0.mk hB3;have qAq:W3.cell? ⟨tb,0,none⟩=some (.slice At done.length ct):=(Q8 hR.tbx 0).trans rfl;have qBk:=QL HX9.out.t;obtain ⟨mm,hmn⟩:∃ mm:Nat,(if (done.length:Int)<a2 then (done.length:Int) else a2)=(mm:Int):=⟨min a2.toNat done.length,by split<;>omega⟩
        have hmin:min a2.toNat done.length=mm:=by split at hmn<;>omega
        have HMM:=Q0.mk hmin
        have hm8:mm≤8:=by omega
        clear hR hB3 hmin
        go_wp2
        have qg2:=HST.out;rw [HMM.out] at qg2;have qzg:=Q0.mk qg2;clear qg2 qAq hmn hmm hW3
        go_loopg [99] (mm+1) (fun d v99 wr => ∃ (k:Nat),v99 = .int .i64 (k:Int)∧Q0 (k+d=mm+1)∧Q0 (∃ st',BxI w.heap.size (w9.heap.size+1) (w.heap.size+1) (w.heap.size+1+1) w.heap.size tb (w9.heap.size+1+1) w9.heap.size A0 c0 l0 At ct done wr st'∧Qn.tries l0 done d k st'=stF)∧Q0 (Below w.heap.size w wr))
        case atStart=>exact ⟨0,rfl,⟨by omega⟩,⟨_,HR.out,qzg.out⟩,HB3⟩
        case round =>
         obtain ⟨k,rfl,HK4,HS4,HB4⟩:=hrel;obtain ⟨st',hI4,hT4⟩:=HS4.out
         by_cases hk:k<mm+1
         ·
          obtain ⟨d,rfl⟩:∃ d,gk=d+1:=⟨gk-1,by have:=HK4.out;omega⟩
          have hki:(k:Int)<(mm:Int)+1:=by omega
          have hfb:wr.cell? ⟨w9.heap.size+1+1,0,none⟩=some (.func (.func 90) #[] #[.pointer (some ⟨w9.heap.size+1,0,none⟩),.pointer (some ⟨w.heap.size+1,0,none⟩),.pointer (some ⟨w.heap.size+1+1,0,none⟩),.pointer (some ⟨w.heap.size,0,none⟩),.pointer (some ⟨tb,0,none⟩),.pointer (some ⟨w9.heap.size+1+1,0,none⟩)]):=(Q8 hI4.fbx 0).trans rfl;have hNw:w.heap.size≤wr.heap.size:=HB4.out.size;have hcall:=Kq.calls (many:=(k:Int)) hn8 done.length (.slice none 0 0) [] 0 st' wr (.inl ⟨rfl,rfl⟩) (by simp) hI4 hNw (Kd.R_nil _ _ _ _ _) (by decide);have HCALL:=Q0.mk hcall;have HT4:=Q0.mk (show Qn.tries l0 done d (k+1) (Qn.cz l0 done (k:Int) done.length [] 0 st')=stF from hT4);clear hcall hT4 hI4 HS4
          go_wp2_with ((with_reducible refine QW (N:=105) rfl ?_);refine XK (some 105) rfl rfl Try.func90 ?hnm rfl #[.slice none 0 0,.agg #[.int .i64 0],.int .i64 (k:Int),.pointer (some ⟨w9.heap.size+1,0,none⟩),.pointer (some ⟨w.heap.size+1,0,none⟩),.pointer (some ⟨w.heap.size+1+1,0,none⟩),.pointer (some ⟨w.heap.size,0,none⟩),.pointer (some ⟨tb,0,none⟩),.pointer (some ⟨w9.heap.size+1+1,0,none⟩)] 102 #[] #[.pointer (some ⟨w9.heap.size+1,0,none⟩),.pointer (some ⟨w.heap.size+1,0,none⟩),.pointer (some ⟨w.heap.size+1+1,0,none⟩),.pointer (some ⟨w.heap.size,0,none⟩),.pointer (some ⟨tb,0,none⟩),.pointer (some ⟨w9.heap.size+1+1,0,none⟩)] rfl ?hevC ?hagC ?_;(case hnm=>kernel_rfl);(case hevC=>rfl);(case hagC=>simp only [List.map_toArray,List.map_cons,List.map_nil];rfl);refine HCALL.out.mono ?_;rintro e W' ⟨⟨u,rfl⟩,hIe,hKe,hBe⟩;refine ⟨u,rfl,?_⟩)
          go_roundg d
          case measure=>omega
          case rel=>exact ⟨k+1,by simp,⟨by have:=HK4.out;omega⟩,⟨_,hIe,HT4.out⟩,⟨HB4.out.trans hBe⟩⟩
         ·
          have hki:¬ ((k:Int)<(mm:Int)+1):=by omega
          have hd0:gk=0:=by have:=HK4.out;omega
          subst hd0;replace hT4:st'=stF:=hT4;subst hT4;obtain ⟨vc,hcb,hcr⟩:=hI4.chb;have hc6:wr.cell? ⟨w.heap.size,0,none⟩=some vc:=(Q8 hcb 0).trans rfl;have hc7:wr.cell? ⟨w.heap.size+1,0,none⟩=some (.int .i64 st'.sp):=(Q8 hI4.spb 0).trans rfl;have hc8:wr.cell? ⟨w.heap.size+1+1,0,none⟩=some (.int .i64 st'.lo):=(Q8 hI4.lob 0).trans rfl;have hf6:=Q9 hcb 0;have hf7:=Q9 hI4.spb 0;have hf8:=Q9 hI4.lob 0;obtain ⟨Ac,cc,rfl,hcc,hCc⟩:=Kd.R_reads hcr;have HI4:=Q0.mk hI4;have HCR:=Q0.mk hcr;clear hI4 hcr hcb HS4 hCc
          go_wp2
          go_region
          go_wp2
          obtain ⟨g1,g2,g3⟩:=HI4.out.put (s1:=st'.sp) (s2:=st'.lo) HCR.out;obtain ⟨v7,k1,k2⟩:=g1.chb;have hbd:=(g2.1);have hf1:=(Qu (Qk (Qk HI4.out.lob (p:=⟨w.heap.size,0,none⟩) HI4.out.n4.2.2.2.1 (.slice Ac st'.ch.length cc)) (p:=⟨w.heap.size+1,0,none⟩) (Ne.symm HI4.out.n4.1) (.int .i64 st'.sp)) 0 (.int .i64 st'.lo) rfl)
          have hk6:(((wr.setCell ⟨w.heap.size,0,none⟩ (.slice Ac st'.ch.length cc)).setCell ⟨w.heap.size+1,0,none⟩ (.int .i64 st'.sp)).setCell ⟨w.heap.size+1+1,0,none⟩ (.int .i64 st'.lo)).heap[w.heap.size]? = some (.cells #[.slice Ac st'.ch.length cc] 37 (0,0)):=by
           obtain ⟨v0,q1,_⟩:=HI4.out.chb
           exact Qk (Qk (Qu q1 0 _ rfl) (p:=⟨w.heap.size+1,0,none⟩) (by simp) _) (p:=⟨w.heap.size+1+1,0,none⟩) (by simp;omega) _
          have hRf:Kd.R (Kd.int .i64) 3 (((wr.setCell ⟨w.heap.size,0,none⟩ (.slice Ac st'.ch.length cc)).setCell ⟨w.heap.size+1,0,none⟩ (.int .i64 st'.sp)).setCell ⟨w.heap.size+1+1,0,none⟩ (.int .i64 st'.lo)).drew w.heap.size (fun k_=>w.heap.size≤k_) (.slice Ac st'.ch.length cc) st'.ch :=
           Kd.R_drew (Kd.R_mono (Kd.R_bound (Kd.R_kept HCR.out g2 (fun k hk=>hk))) (fun k hk=>hk.2.1))
          refine bodyPost_ret (results40 _ _ _ _ _ (.slice Ac st'.ch.length cc) st'.sp st'.lo rfl rfl rfl hk6 g1.spb g1.lob) rfl ?_
          exact ⟨_,rfl,Kd.R_V hRf,(HB4.out.trans g3).trans (Yr (Below.refl w.heap.size _))⟩
       ·
        replace hw8:=Bool.eq_false_iff.mpr hw8;rw [if_neg (by rw [hw8];decide)] at hg
        injection hg with e1 hg
        injection hg with e2 hg
        injection hg with e3 e4
        subst e1 e2 e3 e4;have hcb:wr.cell? ⟨w.heap.size,0,none⟩=some (.slice none 0 0):=(Q8 HX.out.x.c 0).trans rfl;have hsb:wr.cell? ⟨w.heap.size+1,0,none⟩=some (.int .i64 0):=(Q8 HX.out.x.s 0).trans rfl;have hlb:wr.cell? ⟨w.heap.size+1+1,0,none⟩=some (.int .i64 0):=(Q8 HX.out.x.l 0).trans rfl;have hfc:=Q9 HX.out.x.c 0;have hfs:=Q9 HX.out.x.s 0;have hfl:=Q9 HX.out.x.l 0
        go_wp2_with (go_at_call 65;refine (OC _ _ _ _).mono ?_;rintro e w' ⟨rfl,⟨nd,rfl⟩⟩)
        have hXf:=(HX.out.x.keep (Q1 (Below.refl _ _) nd)).again;refine bodyPost_ret (results40 _ _ _ _ _ (.slice none 0 0) 0 0 rfl rfl rfl hXf.c hXf.s hXf.l) rfl ?_
        exact ⟨_,rfl,Kd.V_nil _ _ _ _ _,hXf.below⟩
end
end Go.Proofs.Ytmhomdohhihlcaa.P
namespace Go.Proofs.Ytmhomdohhihlcaa.P
open Go.RowKit Go.Shelf Go.Proofs.YtmhomdohhihlcaaW.PrintWords Go.Proofs.YtmhomdohhihlcaaW.PrintLast Go.Proofs.YtmhomdohhihlcaaW.PrintMore
attribute [local go_sem] Oper.semAt_some
set_option maxHeartbeats 4000000 in
set_option maxRecDepth 100000 in
theorem qcX (n:Nat) (R:Nat) (rb B:Nat) (w:World) (hR1:1≤R) (hR3:R≤3) (hB:B≤rb) (hr:w.heap[rb]? = some (.cells #[.int .i64 R] 3 (0,0))) :
  qaI n Try.prog 95 #[.pointer (some ⟨rb,0,none⟩)] B (Ul (R-1) 100 []) w:=by
 intro l J W hW hJ0 hJ hY h0
 have hmix:Try.prog.follows .mixedOrders=true:=by kernel_rfl
 have hrW:W.heap[rb]? = some (.cells #[.int .i64 R] 3 (0,0)):=(hW.block rb (QL hr)).trans hr
 have hrlt:rb<W.heap.size:=QL hrW
 obtain ⟨Wb,hWb⟩:∃ Wb,(W.alloc (.cells #[.func (.yield l) #[] #[]] 147)).alloc (.cells #[.nilFunc] 87)=Wb:=⟨_,rfl⟩
 have hby:Wb.heap[W.heap.size]? = some (.cells #[.func (.yield l) #[] #[]] 147 (0,0)):=by
  rw [← hWb];exact (Below.heap_alloc _ _ _ (by simp)).trans (World.alloc_heap_new W _)
 have hbf:Wb.heap[W.heap.size+1]? = some (.cells #[.nilFunc] 87 (0,0)):=by
  rw [← hWb];have:=World.alloc_heap_new (W.alloc (.cells #[.func (.yield l) #[] #[]] 147)) (.cells #[.nilFunc] 87);rwa [World.size_alloc] at this
 have hbr:Wb.heap[rb]? = some (.cells #[.int .i64 R] 3 (0,0)):=by
  rw [← hWb];exact (Below.heap_alloc _ _ _ (by simp;omega)).trans ((Below.heap_alloc _ _ _ hrlt).trans hrW)
 have hsz:Wb.heap.size=W.heap.size+2:=by rw [← hWb];simp
 have hcf:=(Q8 hbf 0).trans (show _=some Value.nilFunc from rfl)
 have hff:=Q9 hbf 0
 obtain ⟨Wf,hWf⟩:∃ Wf,Wb.setCell ⟨W.heap.size+1,0,none⟩ (.func (.func 96) #[] #[.pointer (some ⟨rb,0,none⟩),.pointer (some ⟨W.heap.size,0,none⟩),.pointer (some ⟨W.heap.size+1,0,none⟩)])=Wf:=⟨_,rfl⟩
 have hfy:Wf.heap[W.heap.size]? = some (.cells #[.func (.yield l) #[] #[]] 147 (0,0)):=by
  rw [← hWf];exact Qk hby (p:=⟨W.heap.size+1,0,none⟩) (by simp) _
 have qmt:Wf.heap[W.heap.size+1]? = some (.cells #[.func (.func 96) #[] #[.pointer (some ⟨rb,0,none⟩),.pointer (some ⟨W.heap.size,0,none⟩),.pointer (some ⟨W.heap.size+1,0,none⟩)]] 87 (0,0)):=by
  rw [← hWf];exact Qu hbf 0 _ rfl
 have hfr:Wf.heap[rb]? = some (.cells #[.int .i64 R] 3 (0,0)):=by
  rw [← hWf];exact Qk hbr (p:=⟨W.heap.size+1,0,none⟩) (by simp;omega) _
 have hszf:Wf.heap.size=W.heap.size+2:=by rw [← hWf];simpa using hsz
 have hgf:W.grownBy Wf (some (W.heap.size+1)):=by
  rw [← hWf,← hWb]
  exact ⟨rfl,rfl,rfl,by simp;omega,fun k hk _=>by
   refine (Below.heap_setCell _ _ _ k (by simp;omega)).trans ((Below.heap_alloc _ _ _ (by simp;omega)).trans (Below.heap_alloc _ _ _ hk))⟩
 have hJf:J [] Wf:=hJ0 W Wf _ h0 hgf (fun r e=>by cases e;omega)
 have hcell:=(Q8 qmt 0).trans (show _=some _ from rfl)
 have hcall:=qa5 (m:=n-1) (qlR n l R rb W.heap.size (W.heap.size+1) B (Ul (R-1) 100 []) J hJ (fun pre v x W1 hj hp hr=>qbd (hY pre v x W1 hj hp hr)) (R-1) 100 [] (.slice none 0 0) [] Wf (by omega) (by omega) (by simp;omega) hR3 (by omega) (Kd.R_nil _ _ _ _ _)
  ⟨hfr,hfy,qmt,hB,by omega,by omega⟩ hJf (List.prefix_refl _))
 have H1:=Q0.mk hfy
 have H2:=Q0.mk qmt
 have H3:=Q0.mk hfr
 clear hfy qmt hfr hbr hby hrW hJf hgf
 refine callsIn_of_wp Try.func95 rfl trivial ?_ rfl
 simp only [Try.ntmps95,List.size_toArray,List.length_cons,List.length_nil,Nat.reduceAdd,Nat.reduceSub,Array.replicate_succ,Array.replicate_zero,List.push_toArray,List.append_toArray,List.nil_append,List.cons_append]
 gi_wp2_with (refine ⟨trivial,fun e=>by simp [Fence.wide] at e,hcall.mono ?_⟩;rintro e W' ⟨rfl,hJ',hk'⟩)
 go_end0
 exact ⟨⟨_,rfl⟩,hJ'⟩
end Go.Proofs.Ytmhomdohhihlcaa.P
namespace Go.Proofs.Ytmhomdohhihlcaa.P
open Go.RowKit Go.Proofs.YtmhomdohhihlcaaW.PrintWords Go.Proofs.YtmhomdohhihlcaaW.PrintLast Go.Proofs.YtmhomdohhihlcaaW.PrintMore
section
attribute [local go_sem] Yn Yp YA YC Yb Yc Yo Yq
def J8.f (Oe:Int) (X2:Int) (a1:Int):Option (Bool):=if 0≤Oe then (if Oe≤X2 then (some (decide (X2≤a1))) else (some false)) else (some false)
set_option maxHeartbeats 8000000 in
set_option maxRecDepth 100000 in
theorem J8.calls (Oe:Int) (X2:Int) (a1:Int) (r:Bool) (w:World) (h:J8.f Oe X2 a1=some r) :
  Calls Try.prog 66 #[.agg #[.int .i64 Oe,.int .i64 X2],.int .i64 a1] w fun e w'=>e = .returned (.bool r)∧Below w.heap.size w w':=by
 have qbf:=Try.underlying25
 have HB:=Q0.mk (Below.refl w.heap.size w)
 have H:(if 0≤Oe then (if Oe≤X2 then (some (decide (X2≤a1))) else (some false)) else (some false))=some r:=h
 clear h
 by_cases c3:0≤Oe
 ·
  rw [if_pos c3] at H
  have c3b0:decide (0≤Oe)=true:=decide_eq_true c3
  clear c3
  by_cases c4:Oe≤X2
  ·
   rw [if_pos c4] at H
   have c4b0:decide (Oe≤X2)=true:=decide_eq_true c4
   clear c4
   obtain rfl:=Option.some.inj H
   go_enter Try.func66,Try.ntmps66
   go_wp2_with (first|((with_reducible refine QW (N:=2) rfl ?_);refine Yw ?hg (N:=2) ?hd (cs:=#[.int .i64 Oe,.int .i64 X2]) (t:=25) ?hr ?_;(case hd=>rfl);(case hg=>rfl);(case hr=>first|(go_simp;done)|(go_simp;rfl));intro OU hg w5 hbox hb;have n0_:=Q0.mk (Qm (by repeat (first|(with_reducible first|exact HB.out|apply Q3|apply Q1|apply Q6)|exact HB.out)) hb);have n1_:=Q0.mk (hbox);have n2_:=Q0.mk ((by rw [hg];exact (Qf (by repeat (first|(with_reducible first|exact HB.out|apply Q3|apply Q1|apply Q6)|exact HB.out))):w.heap.size≤OU));have n3_:=n2_;clear HB;have HB:=n0_;have OQ:=n1_;have qnV:=n2_;have qe7:=n3_;clear n0_ n1_ n2_ n3_ hb hbox hg;have Xk:w5.cell? ⟨OU,0,none⟩=some (.int .i64 Oe):=(Q8 OQ.out 0).trans rfl;have Xl:w5.cell? ⟨OU,1,none⟩=some (.int .i64 X2):=(Q8 OQ.out 1).trans rfl;have Xm:=Q9 OQ.out 0;have Xn:=Q9 OQ.out 1))
   go_ret
   exact ⟨by first|rfl|(simp [Qq,Qr]<;>rfl)|(simp [*,Qq,Qr]<;>rfl),by repeat (first|(with_reducible first|exact HB.out|apply Q3|apply Q1|apply Q6|refine Q5 ?_ qe7.out)|exact HB.out)⟩
  rw [if_neg c4] at H
  have c4b0:decide (Oe≤X2)=false:=decide_eq_false c4
  clear c4
  obtain rfl:=Option.some.inj H
  go_enter Try.func66,Try.ntmps66
  go_wp2_with (first|((with_reducible refine QW (N:=2) rfl ?_);refine Yw ?hg (N:=2) ?hd (cs:=#[.int .i64 Oe,.int .i64 X2]) (t:=25) ?hr ?_;(case hd=>rfl);(case hg=>rfl);(case hr=>first|(go_simp;done)|(go_simp;rfl));intro OU hg w7 hbox hb;have n0_:=Q0.mk (Qm (by repeat (first|(with_reducible first|exact HB.out|apply Q3|apply Q1|apply Q6)|exact HB.out)) hb);have n1_:=Q0.mk (hbox);have n2_:=Q0.mk ((by rw [hg];exact (Qf (by repeat (first|(with_reducible first|exact HB.out|apply Q3|apply Q1|apply Q6)|exact HB.out))):w.heap.size≤OU));have n3_:=n2_;clear HB;have HB:=n0_;have OQ:=n1_;have qnV:=n2_;have qe7:=n3_;clear n0_ n1_ n2_ n3_ hb hbox hg;have Wq:w7.cell? ⟨OU,0,none⟩=some (.int .i64 Oe):=(Q8 OQ.out 0).trans rfl;have Wr:w7.cell? ⟨OU,1,none⟩=some (.int .i64 X2):=(Q8 OQ.out 1).trans rfl;have Ws:=Q9 OQ.out 0;have Wt:=Q9 OQ.out 1))
  go_ret
  exact ⟨by first|rfl|(simp [Qq,Qr]<;>rfl)|(simp [*,Qq,Qr]<;>rfl),by repeat (first|(with_reducible first|exact HB.out|apply Q3|apply Q1|apply Q6|refine Q5 ?_ qe7.out)|exact HB.out)⟩
 rw [if_neg c3] at H
 have c3b0:decide (0≤Oe)=false:=decide_eq_false c3
 clear c3
 obtain rfl:=Option.some.inj H
 go_enter Try.func66,Try.ntmps66
 go_wp2_with (first|((with_reducible refine QW (N:=2) rfl ?_);refine Yw ?hg (N:=2) ?hd (cs:=#[.int .i64 Oe,.int .i64 X2]) (t:=25) ?hr ?_;(case hd=>rfl);(case hg=>rfl);(case hr=>first|(go_simp;done)|(go_simp;rfl));intro OU hg w9 hbox hb;have n0_:=Q0.mk (Qm (by repeat (first|(with_reducible first|exact HB.out|apply Q3|apply Q1|apply Q6)|exact HB.out)) hb);have n1_:=Q0.mk (hbox);have n2_:=Q0.mk ((by rw [hg];exact (Qf (by repeat (first|(with_reducible first|exact HB.out|apply Q3|apply Q1|apply Q6)|exact HB.out))):w.heap.size≤OU));have n3_:=n2_;clear HB;have HB:=n0_;have OQ:=n1_;have qnV:=n2_;have qe7:=n3_;clear n0_ n1_ n2_ n3_ hb hbox hg;have GE:w9.cell? ⟨OU,0,none⟩=some (.int .i64 Oe):=(Q8 OQ.out 0).trans rfl;have GF:w9.cell? ⟨OU,1,none⟩=some (.int .i64 X2):=(Q8 OQ.out 1).trans rfl;have GG:=Q9 OQ.out 0;have GH:=Q9 OQ.out 1))
 go_ret
 exact ⟨by first|rfl|(simp [Qq,Qr]<;>rfl)|(simp [*,Qq,Qr]<;>rfl),by repeat (first|(with_reducible first|exact HB.out|apply Q3|apply Q1|apply Q6|refine Q5 ?_ qe7.out)|exact HB.out)⟩
end
section
attribute [local go_sem] Yn Yp YA YC Yb Yc Yo Yq
mutual
def Qz.j0:Nat→List (S25)→Bool→Option (Bool)
 | 0,_,_=>none
 | k+1,x0,x5=>Qz.l0 k x5 x0 (x0.length:Int) 0
def Qz.l0:Nat→Bool→List (S25)→Int→Int→Option (Bool)
 | 0,_,_,_,_=>none
 | k+1,x5,x16,x17,x18=>if x18<x17 then (if 0≤x18 then (if x18<(x16.length:Int) then (if x5=true then ((J8.f ((YM x16 x18).f0) ((YM x16 x18).f1) 100).bind fun t131=>(Qz.l0 k t131 x16 x17 (wrap64 (x18+1)))) else (Qz.l0 k false x16 x17 (wrap64 (x18+1)))) else (none)) else (none)) else (some x5)
end
def Qz.f (k:Nat) (l0:List (S25)) (a1:Int):Option (Bool):=(Qj.f a1 1 6).bind fun qjs=>(if qjs=true then (Qz.j0 k l0 ((l0.length:Int)==a1)) else (Qz.j0 k l0 false))
theorem Qz.mono_l:∀ k,(∀ y0 y1,LeO (Qz.j0 k y0 y1) (Qz.j0 (k+1) y0 y1))∧(∀ y0 y1 y2 y3,LeO (Qz.l0 k y0 y1 y2 y3) (Qz.l0 (k+1) y0 y1 y2 y3))
 | 0=>⟨fun _ _ r h=>by simp [Qz.j0] at h,fun _ _ _ _ r h=>by simp [Qz.l0] at h⟩
 | k+1=>by
  obtain ⟨ih0,ih1⟩:=Qz.mono_l k
  refine ⟨?_,?_⟩
  ·
   intro y0 y1
   unfold Qz.j0
   repeat' first
   | (with_reducible exact ih0 _ _)
   | (with_reducible exact ih1 _ _ _ _)
   | (with_reducible exact LeO.refl _)
   | (with_reducible exact LeO.none _)
   | (with_reducible refine LeO.ite ?_ ?_)
   | (with_reducible refine LeO.bind ?_ (fun _ => ?_))
   | exact ih0 _ _
   | exact ih1 _ _ _ _
   | exact LeO.none _
   | refine LeO.ite ?_ ?_
   | refine LeO.bind ?_ (fun _ => ?_)
  intro y0 y1 y2 y3
  unfold Qz.l0
  repeat' first
  | (with_reducible exact ih0 _ _)
  | (with_reducible exact ih1 _ _ _ _)
  | (with_reducible exact LeO.refl _)
  | (with_reducible exact LeO.none _)
  | (with_reducible refine LeO.ite ?_ ?_)
  | (with_reducible refine LeO.bind ?_ (fun _ => ?_))
  | exact ih0 _ _
  | exact ih1 _ _ _ _
  | exact LeO.none _
  | refine LeO.ite ?_ ?_
  | refine LeO.bind ?_ (fun _ => ?_)
theorem Qz.mono:∀ a0 a1 k,LeO (Qz.f k a0 a1) (Qz.f (k+1) a0 a1):=by
 intro a0 a1 k
 obtain ⟨ih0,ih1⟩:=Qz.mono_l k
 unfold Qz.f
 repeat' first
   | (with_reducible exact ih0 _ _)
   | (with_reducible exact ih1 _ _ _ _)
   | (with_reducible exact LeO.refl _)
   | (with_reducible exact LeO.none _)
   | (with_reducible refine LeO.ite ?_ ?_)
   | (with_reducible refine LeO.bind ?_ (fun _ => ?_))
   | exact ih0 _ _
   | exact ih1 _ _ _ _
   | exact LeO.none _
   | refine LeO.ite ?_ ?_
   | refine LeO.bind ?_ (fun _ => ?_)
set_option maxHeartbeats 8000000 in
set_option maxRecDepth 100000 in
theorem Qz.calls (k:Nat) (A0:Option Addr) (c0:Nat) (l0:List (S25)) (a1:Int) (r:Bool) (w:World) (hr0:Kd.C k25 w A0 l0.length l0) (hc0:l0.length≤c0) (h:Qz.f k l0 a1=some r) :
  Calls Try.prog 67 #[.slice A0 l0.length c0,.int .i64 a1] w fun e w'=>e = .returned (.bool r)∧Below w.heap.size w w':=by
 have qbf:=Try.underlying25
 have HR0:=Q0.mk hr0
 have HC0:=Q0.mk hc0
 clear hr0 hc0
 have HB:=Q0.mk (Below.refl w.heap.size w)
 have H:((Qj.f a1 1 6).bind fun qjs=>(if qjs=true then (Qz.j0 k l0 ((l0.length:Int)==a1)) else (Qz.j0 k l0 false)))=some r:=h
 clear h
 have HC3:=Q0.mk H
 clear H
 go_enter Try.func67,Try.ntmps67
 go_upto_region 1 with (fail)
 go_cut [5] (fun v5 wc => ∃ (kq:Nat) (Yl:Bool),v5 = .bool Yl∧Q0 (Qz.j0 kq l0 Yl=some r)∧Q0 (kq≤k)∧Q0 (Below w.heap.size w wc))
 case first =>
  have H:=HC3.out
  clear HC3
  replace H:=Option.bind_eq_some_iff.mp H
  obtain ⟨qjs,A40,H⟩:=H
  replace H:(if qjs=true then (Qz.j0 k l0 ((l0.length:Int)==a1)) else (Qz.j0 k l0 false))=some r:=H
  have A4:=Q0.mk A40
  clear A40
  by_cases c5:qjs=true
  ·
   subst c5
   have H1:(Qz.j0 k l0 ((l0.length:Int)==a1))=some r:=by rw [if_pos rfl] at H;exact H
   clear H
   have H:=H1
   clear H1
   have H':=Q0.mk H
   clear H
   go_wp2_with (first|((with_reducible refine Qx (f:=65) rfl ?_);refine YL (some 9) rfl rfl Try.func65 (by kernel_rfl) rfl #[.int .i64 a1,.int .i64 1,.int .i64 6] rfl (by (try simp only [List.map_toArray,List.map_cons,List.map_nil]);first|done|rfl|(simp only [List.length_drop,List.length_take];rfl)) ?_;(with_reducible refine (Qj.calls a1 1 6 true _ A4.out).mono ?_);rintro e w' ⟨rfl,⟨nd,rfl⟩⟩;refine ⟨_,rfl,?_⟩))
   go_meet
   case rel=>exact ⟨_,(((l0.length:Int)==a1)),(by first|rfl|(simp;done)|(simp [*];done)),H',⟨by first|omega|exact Nat.le_refl _⟩,⟨by repeat (first|(with_reducible first|exact HB.out|apply Q3|apply Q1|apply Q6)|exact HB.out)⟩⟩
  replace c5:=Bool.eq_false_iff.mpr c5
  subst c5
  have H1:(Qz.j0 k l0 false)=some r:=by rw [if_neg (show ¬ (false=true) by decide)] at H;exact H
  clear H
  have H:=H1
  clear H1
  have H':=Q0.mk H
  clear H
  go_wp2_with (first|((with_reducible refine Qx (f:=65) rfl ?_);refine YL (some 9) rfl rfl Try.func65 (by kernel_rfl) rfl #[.int .i64 a1,.int .i64 1,.int .i64 6] rfl (by (try simp only [List.map_toArray,List.map_cons,List.map_nil]);first|done|rfl|(simp only [List.length_drop,List.length_take];rfl)) ?_;(with_reducible refine (Qj.calls a1 1 6 false _ A4.out).mono ?_);rintro e w' ⟨rfl,⟨nd,rfl⟩⟩;refine ⟨_,rfl,?_⟩))
  go_meet
  case rel=>exact ⟨_,(false),(by first|rfl|(simp;done)|(simp [*];done)),H',⟨by first|omega|exact Nat.le_refl _⟩,⟨by repeat (first|(with_reducible first|exact HB.out|apply Q3|apply Q1|apply Q6)|exact HB.out)⟩⟩
 case rest =>
  clear HC3
  try clear p2
  try clear c5
  obtain ⟨kq,Yl,rfl,HA,HJ2,HB⟩:=hcut
  cases kq with
  | zero=>exact absurd HA.out (by simp [Qz.j0])
  | succ kj2 =>
   have H:=HA.out
   clear HA
   simp only [Qz.j0] at H
   have H':=Q0.mk H
   clear H
   go_wp2
   go_loopg [5,18] kj2 (fun kq v5 v18 w' => ∃ (Yl:Bool) (J4:Int),v5 = .bool Yl∧v18 = .int .i64 J4∧Q0 (Qz.l0 kq Yl l0 (l0.length:Int) J4=some r)∧Q0 (kq≤kj2)∧Q0 (Below w.heap.size w w'))
   case atStart=>exact ⟨(Yl),(0),(by first|rfl|(simp;done)|(simp [*];done)),(by first|rfl|(simp;done)|(simp [*];done)),H',⟨Nat.le_refl _⟩,⟨by repeat (first|(with_reducible first|exact HB.out|apply Q3|apply Q1|apply Q6)|exact HB.out)⟩⟩
   case round =>
    clear H';(try clear p2);(try clear c5);(try clear p2);obtain ⟨Yl,J4,rfl,rfl,HA,HK2,HB⟩:=hrel
    cases gk with
    | zero=>exact absurd HA.out (by simp [Qz.l0])
    | succ k2 =>
     have H:=HA.out;clear HA;simp only [Qz.l0] at H
     by_cases c6:J4<(l0.length:Int)
     ·
      rw [if_pos c6] at H;have c6b0:decide (J4<(l0.length:Int))=true:=decide_eq_true c6;clear c6
      by_cases c7:0≤J4
      ·
       rw [if_pos c7] at H;have c7b0:decide (0≤J4)=true:=decide_eq_true c7;clear c7
       by_cases c8:J4<(l0.length:Int)
       ·
        rw [if_pos c8] at H;have c8b0:decide (J4<(l0.length:Int))=true:=decide_eq_true c8;clear c8
        by_cases c9:Yl=true
        ·
         subst c9
         have H1:((J8.f ((YM l0 J4).f0) ((YM l0 J4).f1) 100).bind fun t131=>(Qz.l0 k2 t131 l0 (l0.length:Int) (wrap64 (J4+1))))=some r:=by rw [if_pos rfl] at H;exact H
         clear H;have H:=H1;clear H1;replace H:=Option.bind_eq_some_iff.mp H;obtain ⟨t131,qjE,H⟩:=H;replace H:(Qz.l0 k2 t131 l0 (l0.length:Int) (wrap64 (J4+1)))=some r:=H;have A10:=Q0.mk qjE;clear qjE;have H':=Q0.mk H;clear H;have qha:0≤(J4:Int):=of_decide_eq_true (by first|(with_reducible assumption)|assumption);have qhn:J4<(l0.length:Int):=of_decide_eq_true (by first|(with_reducible assumption)|assumption);obtain ⟨qqS,e129,UV,UW⟩:=UT HR0.out J4 qha qhn;cases e129;replace UV:=(HB.out.cell (World.block_lt_of_cell? w _ UV)).trans UV;replace UW:=(HB.out.cell (World.block_lt_of_cell? w _ UW)).trans UW;replace qha:=eq_true qha;replace qhn:=eq_true qhn
         go_wp2_with (first|((with_reducible refine QW (N:=7) rfl ?_);(try (refine Gq (by rfl) ?_;dsimp only));refine Yw ?hg (N:=7) ?hd (cs:=#[.int .i64 0,.int .i64 0]) (t:=25) ?hr ?_;(case hd=>rfl);(case hg=>rfl);(case hr=>first|(go_simp;done)|(go_simp;rfl));intro Xb hg w11 hbox hb;have n0_:=Q0.mk (Qm (by repeat (first|(with_reducible first|exact HB.out|apply Q3|apply Q1|apply Q6)|exact HB.out)) hb);have n1_:=Q0.mk (hbox);have n2_:=Q0.mk ((by rw [hg];exact (Qf (by repeat (first|(with_reducible first|exact HB.out|apply Q3|apply Q1|apply Q6)|exact HB.out))):w.heap.size≤Xb));have n3_:=n2_;clear HB;have HB:=n0_;have Wd:=n1_;have qqz:=n2_;have qhW:=n3_;clear n0_ n1_ n2_ n3_ hb hbox hg;have XM:w11.cell? ⟨Xb,0,none⟩=some (.int .i64 0):=(Q8 Wd.out 0).trans rfl;have XN:w11.cell? ⟨Xb,1,none⟩=some (.int .i64 0):=(Q8 Wd.out 1).trans rfl;have XX:=Q9 Wd.out 0;have XY:=Q9 Wd.out 1)|(go_at_call 66;(with_reducible refine (J8.calls ((YM l0 J4).f0) ((YM l0 J4).f1) 100 t131 _ A10.out).mono ?_);rintro e w13 ⟨rfl,hb⟩;have n0_:=Q0.mk (Qe (g:=Xb) (o:=.cells #[.int .i64 ((YM l0 J4).f0),.int .i64 ((YM l0 J4).f1)] 25 (0,0)) (by (with_reducible repeat (first|refine Q4 ?_ _|refine Q7 ?_|refine Q2 ?_ _));refine Qu (cs:=#[.int .i64 ((YM l0 J4).f0),.int .i64 0]) ?_ 1 _ rfl;(with_reducible repeat (first|refine Q4 ?_ _|refine Q7 ?_|refine Q2 ?_ _));refine Qu (cs:=#[.int .i64 0,.int .i64 0]) ?_ 0 _ rfl;(with_reducible repeat (first|refine Q4 ?_ _|refine Q7 ?_|refine Q2 ?_ _));exact Wd.out) hb);have n1_:=Q0.mk (Qm (by repeat (first|(with_reducible first|exact HB.out|apply Q3|apply Q1|apply Q6|refine Q5 ?_ qhW.out)|exact HB.out)) hb);clear Wd HB;have Wd:=n0_;have HB:=n1_;clear n0_ n1_;(try clear hb);(try clear hb2);(try clear hk);(try clear hi)))
         go_roundg k2
         case measure=>have:=HJ2.out;have:=HK2.out;omega
         case rel=>exact ⟨(t131),(wrap64 (J4+1)),(by first|rfl|(simp;done)|(simp [*];done)),(by first|rfl|(simp;done)|(simp [*];done)),H',⟨by have:=HJ2.out;have:=HK2.out;omega⟩,⟨by repeat (first|(with_reducible first|exact HB.out|apply Q3|apply Q1|apply Q6|refine Q5 ?_ qhW.out)|exact HB.out)⟩⟩
        replace c9:=Bool.eq_false_iff.mpr c9;subst c9
        have H1:(Qz.l0 k2 false l0 (l0.length:Int) (wrap64 (J4+1)))=some r:=by rw [if_neg (show ¬ (false=true) by decide)] at H;exact H
        clear H;have H:=H1;clear H1;have H':=Q0.mk H;clear H;have qha:0≤(J4:Int):=of_decide_eq_true (by first|(with_reducible assumption)|assumption);have qhn:J4<(l0.length:Int):=of_decide_eq_true (by first|(with_reducible assumption)|assumption);obtain ⟨qqS,e129,UV,UW⟩:=UT HR0.out J4 qha qhn;cases e129;replace UV:=(HB.out.cell (World.block_lt_of_cell? w _ UV)).trans UV;replace UW:=(HB.out.cell (World.block_lt_of_cell? w _ UW)).trans UW;replace qha:=eq_true qha;replace qhn:=eq_true qhn
        go_wp2_with (first|((with_reducible refine QW (N:=7) rfl ?_);(try (refine Gq (by rfl) ?_;dsimp only));refine Yw ?hg (N:=7) ?hd (cs:=#[.int .i64 0,.int .i64 0]) (t:=25) ?hr ?_;(case hd=>rfl);(case hg=>rfl);(case hr=>first|(go_simp;done)|(go_simp;rfl));intro Xb hg w14 hbox hb;have n0_:=Q0.mk (Qm (by repeat (first|(with_reducible first|exact HB.out|apply Q3|apply Q1|apply Q6)|exact HB.out)) hb);have n1_:=Q0.mk (hbox);have n2_:=Q0.mk ((by rw [hg];exact (Qf (by repeat (first|(with_reducible first|exact HB.out|apply Q3|apply Q1|apply Q6)|exact HB.out))):w.heap.size≤Xb));have n3_:=n2_;clear HB;have HB:=n0_;have Wd:=n1_;have qqz:=n2_;have qhW:=n3_;clear n0_ n1_ n2_ n3_ hb hbox hg;have Oi:w14.cell? ⟨Xb,0,none⟩=some (.int .i64 0):=(Q8 Wd.out 0).trans rfl;have Oj:w14.cell? ⟨Xb,1,none⟩=some (.int .i64 0):=(Q8 Wd.out 1).trans rfl;have Oo:=Q9 Wd.out 0;have Oq:=Q9 Wd.out 1))
        go_roundg k2
        case measure=>have:=HJ2.out;have:=HK2.out;omega
        case rel=>exact ⟨(false),(wrap64 (J4+1)),(by first|rfl|(simp;done)|(simp [*];done)),(by first|rfl|(simp;done)|(simp [*];done)),H',⟨by have:=HJ2.out;have:=HK2.out;omega⟩,⟨by repeat (first|(with_reducible first|exact HB.out|apply Q3|apply Q1|apply Q6|refine Q5 ?_ qhW.out)|exact HB.out)⟩⟩
       rw [if_neg c8] at H
       exact absurd H (by simp)
      rw [if_neg c7] at H
      exact absurd H (by simp)
     rw [if_neg c6] at H;have c6b0:decide (J4<(l0.length:Int))=false:=decide_eq_false c6;clear c6;obtain rfl:=Option.some.inj H
     go_wp2
     go_ret
     exact ⟨by first|rfl|(simp [Qq,Qr]<;>rfl)|(simp [*,Qq,Qr]<;>rfl),by repeat (first|(with_reducible first|exact HB.out|apply Q3|apply Q1|apply Q6)|exact HB.out)⟩
end
section
attribute [local go_sem] Yn Yp YA YC Yb Yc Yo Yq
def QY.l0:Nat→Int→List Int→Int→Int→Option (Int)
 | 0,_,_,_,_=>none
 | k+1,x3,x6,x7,x8=>if x8<x7 then (if 0≤x8 then (if x8<(x6.length:Int) then (QY.l0 k (wrap64 (x3+(rd x6 x8))) x6 x7 (wrap64 (x8+1))) else (none)) else (none)) else (some x3)
def QY.f (k:Nat) (l0:List Int):Option (Int):=QY.l0 k 0 l0 (l0.length:Int) 0
theorem QY.mono_l:∀ k,(∀ y0 y1 y2 y3,LeO (QY.l0 k y0 y1 y2 y3) (QY.l0 (k+1) y0 y1 y2 y3))
 | 0=>fun _ _ _ _ r h=>by simp [QY.l0] at h
 | k+1=>by
  have ih0:=QY.mono_l k
  intro y0 y1 y2 y3
  unfold QY.l0
  repeat' first
  | (with_reducible exact ih0 _ _ _ _)
  | (with_reducible exact LeO.refl _)
  | (with_reducible exact LeO.none _)
  | (with_reducible refine LeO.ite ?_ ?_)
  | (with_reducible refine LeO.bind ?_ (fun _ => ?_))
  | exact ih0 _ _ _ _
  | exact LeO.none _
  | refine LeO.ite ?_ ?_
  | refine LeO.bind ?_ (fun _ => ?_)
theorem QY.mono:∀ a0 k,LeO (QY.f k a0) (QY.f (k+1) a0):=by
 intro a0 k
 have ih0:=QY.mono_l k
 unfold QY.f
 repeat' first
   | (with_reducible exact ih0 _ _ _ _)
   | (with_reducible exact LeO.refl _)
   | (with_reducible exact LeO.none _)
   | (with_reducible refine LeO.ite ?_ ?_)
   | (with_reducible refine LeO.bind ?_ (fun _ => ?_))
   | exact ih0 _ _ _ _
   | exact LeO.none _
   | refine LeO.ite ?_ ?_
   | refine LeO.bind ?_ (fun _ => ?_)
set_option maxHeartbeats 8000000 in
set_option maxRecDepth 100000 in
theorem QY.calls (k:Nat) (A0:Option Addr) (c0:Nat) (l0:List Int) (r:Int) (w:World) (hr0:Kd.C (Kd.int .i64) w A0 l0.length l0) (hc0:l0.length≤c0) (h:QY.f k l0=some r) :
  Calls Try.prog 97 #[.slice A0 l0.length c0] w fun e w'=>e = .returned (.int .i64 r)∧Yg w w':=by
 have HR0:=Q0.mk hr0
 have HC0:=Q0.mk hc0
 clear hr0 hc0
 have H:(QY.l0 k 0 l0 (l0.length:Int) 0)=some r:=h
 clear h
 have H':=Q0.mk H
 clear H
 go_enter Try.func97,Try.ntmps97
 go_wp2
 go_loopg [3,8] k (fun kq v3 v8 w' => ∃ (qnS:Int) (Oc:Int),v3 = .int .i64 qnS∧v8 = .int .i64 Oc∧Q0 (QY.l0 kq qnS l0 (l0.length:Int) Oc=some r)∧Q0 (kq≤k)∧Yg w w')
 case atStart=>exact ⟨(0),(0),(by first|rfl|(simp;done)|(simp [*];done)),(by first|rfl|(simp;done)|(simp [*];done)),H',⟨Nat.le_refl _⟩,by repeat (first|exact Yg.refl _|apply Yg.step)⟩
 case round =>
  clear H'
  obtain ⟨qnS,Oc,rfl,rfl,HA,HK1,⟨m1,rfl⟩⟩:=hrel
  cases gk with
  | zero=>exact absurd HA.out (by simp [QY.l0])
  | succ k1 =>
   have H:=HA.out
   clear HA
   simp only [QY.l0] at H
   by_cases c2:Oc<(l0.length:Int)
   ·
    rw [if_pos c2] at H;have c2b0:decide (Oc<(l0.length:Int))=true:=decide_eq_true c2;clear c2
    by_cases c3:0≤Oc
    ·
     rw [if_pos c3] at H;have c3b0:decide (0≤Oc)=true:=decide_eq_true c3;clear c3
     by_cases c4:Oc<(l0.length:Int)
     ·
      rw [if_pos c4] at H;have c4b0:decide (Oc<(l0.length:Int))=true:=decide_eq_true c4;clear c4;have H':=Q0.mk H;clear H;have qpS:0≤(Oc:Int):=of_decide_eq_true (by first|(with_reducible assumption)|assumption);have qpY:Oc<(l0.length:Int):=of_decide_eq_true (by first|(with_reducible assumption)|assumption);obtain ⟨qAR,qzs,qyZ⟩:=Kd.at_int HR0.out Oc qpS qpY;cases qzs;replace qpS:=eq_true qpS;replace qpY:=eq_true qpY
      go_wp2
      go_roundg k1
      case measure=>have:=HK1.out;omega
      case rel=>exact ⟨(wrap64 (qnS+(rd l0 Oc))),(wrap64 (Oc+1)),(by first|rfl|(simp;done)|(simp [*];done)),(by first|rfl|(simp;done)|(simp [*];done)),H',⟨by have:=HK1.out;omega⟩,by repeat (first|exact Yg.refl _|apply Yg.step)⟩
     rw [if_neg c4] at H
     exact absurd H (by simp)
    rw [if_neg c3] at H
    exact absurd H (by simp)
   rw [if_neg c2] at H
   have c2b0:decide (Oc<(l0.length:Int))=false:=decide_eq_false c2
   clear c2
   obtain rfl:=Option.some.inj H
   go_wp2
   go_ret
   exact ⟨by first|rfl|(simp;done)|(simp [*];done),by repeat (first|exact Yg.refl _|apply Yg.step)⟩
end
section
def G1.f (a b:Int):Option Int:=some a
def JM.f (a b:Int):Option Int:=some b
theorem G1.calls (a b r:Int) (w:World) (h:G1.f a b=some r) :
  Calls Try.prog 68 #[.agg #[.int .i64 a,.int .i64 b]] w fun e w'=>e = .returned (.int .i64 r)∧Below w.heap.size w w':=by
 unfold G1.f at h
 injection h with h
 subst h
 have qbf:=Try.underlying25
 go_enter Try.func68,Try.ntmps68
 go_wp2
 go_ret
 exact ⟨rfl,(Below.refl _ w).alloc (Nat.le_refl _) _⟩
theorem JM.calls (a b r:Int) (w:World) (h:JM.f a b=some r) :
  Calls Try.prog 69 #[.agg #[.int .i64 a,.int .i64 b]] w fun e w'=>e = .returned (.int .i64 r)∧Below w.heap.size w w':=by
 unfold JM.f at h
 injection h with h
 subst h
 have qbf:=Try.underlying25
 go_enter Try.func69,Try.ntmps69
 go_wp2
 go_ret
 exact ⟨rfl,(Below.refl _ w).alloc (Nat.le_refl _) _⟩
end
section
attribute [local go_sem] Yn Yp YA YC Yb Yc Yo Yq
def QK.l0:Nat→List (List (S25))→Int→List Int→List Int→Int→Int→Option (Int)
 | 0,_,_,_,_,_,_=>none
 | k+1,x2,x3,x9,x12,x13,x14=>if x14<x13 then (if 0≤x14 then (if x14<(x12.length:Int) then (if x14<(x2.length:Int) then (if 0≤x3 then (if x3<((Jr x2 x14).length:Int) then ((G1.f ((YM (Jr x2 x14) x3).f0) ((YM (Jr x2 x14) x3).f1)).bind fun Xw=>(if x9.length<17592186044416 then (QK.l0 k x2 x3 (x9++[wrap64 ((rd x12 x14)*Xw)]) x12 x13 (wrap64 (x14+1))) else (none))) else (none)) else (none)) else (none)) else (none)) else (none)) else ((QY.f k x9).bind fun t141=>(some t141))
def QK.f (k:Nat) (Oe:Int) (l1:List Int) (l2:List (List (S25))) (a3:Int):Option (Int):=QK.l0 k l2 a3 ([]:List Int) l1 (l1.length:Int) 0
theorem QK.mono_l:∀ k,(∀ y0 y1 y2 y3 y4 y5,LeO (QK.l0 k y0 y1 y2 y3 y4 y5) (QK.l0 (k+1) y0 y1 y2 y3 y4 y5))
 | 0=>fun _ _ _ _ _ _ r h=>by simp [QK.l0] at h
 | k+1=>by
  have ih0:=QK.mono_l k
  intro y0 y1 y2 y3 y4 y5
  unfold QK.l0
  repeat' first
  | (with_reducible exact ih0 _ _ _ _ _ _)
  | (with_reducible exact QY.mono _ _)
  | (with_reducible exact LeO.refl _)
  | (with_reducible exact LeO.none _)
  | (with_reducible refine LeO.ite ?_ ?_)
  | (with_reducible refine LeO.bind ?_ (fun _ => ?_))
  | exact ih0 _ _ _ _ _ _
  | exact QY.mono _ _
  | exact LeO.none _
  | refine LeO.ite ?_ ?_
  | refine LeO.bind ?_ (fun _ => ?_)
theorem QK.mono:∀ a0 a1 a2 a3 k,LeO (QK.f k a0 a1 a2 a3) (QK.f (k+1) a0 a1 a2 a3):=by
 intro a0 a1 a2 a3 k
 have ih0:=QK.mono_l k
 unfold QK.f
 repeat' first
   | (with_reducible exact ih0 _ _ _ _ _ _)
   | (with_reducible exact QY.mono _ _)
   | (with_reducible exact LeO.refl _)
   | (with_reducible exact LeO.none _)
   | (with_reducible refine LeO.ite ?_ ?_)
   | (with_reducible refine LeO.bind ?_ (fun _ => ?_))
   | exact ih0 _ _ _ _ _ _
   | exact QY.mono _ _
   | exact LeO.none _
   | refine LeO.ite ?_ ?_
   | refine LeO.bind ?_ (fun _ => ?_)
def QK.T5:Bool × List (List Nat × List Nat):=(true,[([],[]),([],[]),([],[]),([2],[2]),([],[]),([],[]),([4,5],[4,5]),([6],[6]),([],[]),([7,8],[7,8]),([9],[9]),([3,10],[3,10]),([1,11],[1,11]),([12],[12]),([0,13,11],[0,13]),([14,14,0,1,2,3,4,5,6,7,8,9,10,11,12,13,14],[0,14])])
def QK.B5:List Nat:=[0,0,0,4,0,0,48,112,0,496,1008,2044,4094,8190,16383,32767]
theorem QK.tab5:rtab .any (qfY Try.f71 5)=QK.T5:=by kernel_rfl
theorem QK.bits5:Oz QK.T5.2 QK.B5=true:=by kernel_rfl
set_option maxHeartbeats 8000000 in
set_option maxRecDepth 100000 in
theorem QK.calls (k:Nat) (Oe:Int) (A1:Option Addr) (c1:Nat) (l1:List Int) (A2:Option Addr) (c2:Nat) (l2:List (List (S25))) (a3:Int) (r:Int) (w:World) (hr1:Kd.C (Kd.int .i64) w A1 l1.length l1) (hc1:l1.length≤c1) (hr2:Kd.C (Kd.slice 25 k25) w A2 l2.length l2) (hc2:l2.length≤c2) (h:QK.f k Oe l1 l2 a3=some r) :
  Calls Try.prog 71 #[.agg #[.func (.func 68) #[] #[]],.slice A1 l1.length c1,.slice A2 l2.length c2,.int .i64 a3] w fun e w'=>e = .returned (.int .i64 r)∧Below w.heap.size w w':=by
 have qs5:=Try.underlying104
 have qbf:=Try.underlying25
 have HR1:=Q0.mk hr1
 have HC1:=Q0.mk hc1
 clear hr1 hc1
 have HR2:=Q0.mk hr2
 have HC2:=Q0.mk hc2
 clear hr2 hc2
 have HB:=Q0.mk (Below.refl w.heap.size w)
 have H:(QK.l0 k l2 a3 ([]:List Int) l1 (l1.length:Int) 0)=some r:=h
 clear h
 have H':=Q0.mk H
 clear H
 go_enter Try.func71,Try.ntmps71
 go_wp2_with (first|((with_reducible refine QW (N:=4) rfl ?_);refine Yw ?hg (N:=4) ?hd (cs:=#[.func (.func 68) #[] #[]]) (t:=104) ?hr ?_;(case hd=>rfl);(case hg=>rfl);(case hr=>first|(go_simp;done)|(go_simp;rfl));intro UI hg w5 hbox hb;have n0_:=Q0.mk (Qm (by repeat (first|(with_reducible first|exact HB.out|apply Q3|apply Q1|apply Q6)|exact HB.out)) hb);have n1_:=Q0.mk (hbox);have n2_:=Q0.mk ((by rw [hg];exact (Qf (by repeat (first|(with_reducible first|exact HB.out|apply Q3|apply Q1|apply Q6)|exact HB.out))):w.heap.size≤UI));have n3_:=n2_;clear HB;have HB:=n0_;have Jc:=n1_;have qqA:=n2_;have Uy:=n3_;clear n0_ n1_ n2_ n3_ hb hbox hg))
 go_loopg [9,14] k (fun kq v9 v14 w' => ∃ (Od:List Int) (Z1:Int),v14 = .int .i64 Z1∧Q0 (QK.l0 kq l2 a3 Od l1 (l1.length:Int) Z1=some r)∧Q0 (kq≤k)∧Q0 (Kd.R (Kd.int .i64) 3 w' w.heap.size (fun _=>True) v9 Od)∧Q0 (w'.heap[UI]? = some (.cells #[.func (.func 68) #[] #[]] 104 (0,0)))∧Q0 (Below w.heap.size w w'))
 case atStart=>exact ⟨(([]:List Int)),(0),(by first|rfl|(simp;done)|(simp [*];done)),H',⟨Nat.le_refl _⟩,⟨by first|exact Kd.R_nil _ _ _ _ _|exact Kd.N_nil _ _ _ _ _|exact Kd.V_nil _ _ _ _ _|exact Kd.Q_nil _ _ _ _ _|exact Kd.S_nil _ _ _ _ _⟩,⟨by (with_reducible repeat (first|refine Q4 ?_ _|refine Q7 ?_|refine Q2 ?_ _));exact Jc.out⟩,⟨by repeat (first|(with_reducible first|exact HB.out|apply Q3|apply Q1|apply Q6|refine Q5 ?_ Uy.out)|exact HB.out)⟩⟩
 case round =>
  clear H'
  try clear c1
  try clear c2
  try clear p2
  obtain ⟨Od,Z1,rfl,HA,HK1,HO_9,Jc,HB⟩:=hrel
  cases gk with
  | zero=>exact absurd HA.out (by simp [QK.l0])
  | succ k1 =>
   have H:=HA.out
   clear HA
   simp only [QK.l0] at H
   by_cases c6:Z1<(l1.length:Int)
   ·
    rw [if_pos c6] at H;have c6b0:decide (Z1<(l1.length:Int))=true:=decide_eq_true c6;clear c6
    by_cases c7:0≤Z1
    ·
     rw [if_pos c7] at H;have c7b0:decide (0≤Z1)=true:=decide_eq_true c7;clear c7
     by_cases c8:Z1<(l1.length:Int)
     ·
      rw [if_pos c8] at H;have c8b0:decide (Z1<(l1.length:Int))=true:=decide_eq_true c8;clear c8
      by_cases c9:Z1<(l2.length:Int)
      ·
       rw [if_pos c9] at H;have c9b0:decide (Z1<(l2.length:Int))=true:=decide_eq_true c9;clear c9
       by_cases c10:0≤a3
       ·
        rw [if_pos c10] at H;have c10b0:decide (0≤a3)=true:=decide_eq_true c10;clear c10
        by_cases c11:a3<((Jr l2 Z1).length:Int)
        ·
         rw [if_pos c11] at H;have c11b0:decide (a3<((Jr l2 Z1).length:Int))=true:=decide_eq_true c11;clear c11;replace H:=Option.bind_eq_some_iff.mp H;obtain ⟨Xw,qb4,H⟩:=H;replace H:(if Od.length<17592186044416 then (QK.l0 k1 l2 a3 (Od++[wrap64 ((rd l1 Z1)*Xw)]) l1 (l1.length:Int) (wrap64 (Z1+1))) else (none))=some r:=H;have A12:=Q0.mk qb4;clear qb4
         by_cases c13:Od.length<17592186044416
         ·
          rw [if_pos c13] at H;have qjV:=Q0.mk c13;clear c13;obtain ⟨qls,Wy⟩:∃ y_:List Int,y_=(Od++[wrap64 ((rd l1 Z1)*Xw)]):=⟨_,rfl⟩
          replace H:(QK.l0 k1 l2 a3 qls l1 (l1.length:Int) (wrap64 (Z1+1)))=some r:=by first|(rw [Wy];with_reducible exact H)|(have H2_:=(Option.bind_some _ _).symm.trans H;rw [Wy];with_reducible exact H2_)|(have H2_:=(Option.bind_some _ _).symm.trans H;with_reducible exact H2_)|with_reducible exact H|(rw [Wy];exact H)|exact H
          have qjZ:=Q0.mk Wy;clear Wy;have H':=Q0.mk H;clear H;have qhb:0≤(Z1:Int):=of_decide_eq_true (by first|(with_reducible assumption)|assumption);have qho:Z1<(l1.length:Int):=of_decide_eq_true (by first|(with_reducible assumption)|assumption);obtain ⟨qqT,qpi,UX⟩:=Kd.at_int HR1.out Z1 qhb qho;cases qpi;replace UX:=(HB.out.cell (World.block_lt_of_cell? w _ UX)).trans UX;replace qhb:=eq_true qhb;replace qho:=eq_true qho
          try go_wp2
          have n0_:=Q0.mk (Kd.R_drew HO_9.out);have n1_:=Q0.mk (Q7 Jc.out);have n2_:=Q0.mk (Q6 HB.out);clear HO_9 Jc HB;have HO_9:=n0_;have Jc:=n1_;have HB:=n2_;clear n0_ n1_ n2_;have qhc:0≤(Z1:Int):=of_decide_eq_true (by first|(with_reducible assumption)|assumption);have qhp:Z1<(l2.length:Int):=of_decide_eq_true (by first|(with_reducible assumption)|assumption);obtain ⟨qj4,qoQ,qgL,qpj,KA,qam,qai⟩:=qj9 HR2.out Z1 qhc qhp;have Jm:=KA;cases qpj;replace KA:=(HB.out.cell (World.block_lt_of_cell? w _ KA)).trans KA;have XC:=Q0.mk qai;have qlC:=Q0.mk qam;clear qai qam;replace qhc:=eq_true qhc;replace qhp:=eq_true qhp;have qhd:0≤(a3:Int):=of_decide_eq_true (by first|(with_reducible assumption)|assumption);have qhq:a3<((Jr l2 Z1).length:Int):=of_decide_eq_true (by first|(with_reducible assumption)|assumption);obtain ⟨XF,qpk,KB,KC⟩:=UT XC.out a3 qhd qhq;have Jo:=KC;have Jn:=KB;cases qpk;replace KB:=(HB.out.cell (World.block_lt_of_cell? w _ KB)).trans KB;replace KC:=(HB.out.cell (World.block_lt_of_cell? w _ KC)).trans KC;replace qhd:=eq_true qhd;replace qhq:=eq_true qhq;refine qaS (n:=16) (S:=fun w'=>w'.cell? ⟨UI,0,none⟩=some (.func (.func 68) #[] #[])∧w'.cell? (qj4.add (Z1).toNat)=some (.slice (some XF) (Jr l2 Z1).length qgL)∧w'.cell? (XF.add ((a3).toNat*2))=some (.int .i64 ((YM (Jr l2 Z1) a3).f0))∧w'.cell? ⟨(XF.add ((a3).toNat*2)).block,(XF.add ((a3).toNat*2)).off+1,none⟩=some (.int .i64 ((YM (Jr l2 Z1) a3).f1))) (ds:=[]) #[false,false,false,false,false,false,false,false,false,false,false,false,false,false,false,false] (by kernel_rfl) rfl rfl ⟨(Q8 Jc.out 0).trans rfl,((HB.out.cell (World.block_lt_of_cell? w _ Jm)).trans Jm),((HB.out.cell (World.block_lt_of_cell? w _ Jn)).trans Jn),((HB.out.cell (World.block_lt_of_cell? w _ Jo)).trans Jo)⟩ (fun hHeld => ?_);refine UO QK.tab5 QK.bits5 (fun HT_ HW_ => ?_)
          generalize wr.drew=w14 at HO_9 Jc HB XC KA KB KC hHeld ⊢
          refine ZE (i:=0) (N:=some 19) (v:=?_) (a':=?_) #[true,false,false,false,false,false,false,false,false,false,false,false,false,false,false,false] rfl rfl (Zb HT_.out (by kernel_rfl)) (fun _ _ _ h=>h) (Or.inl ⟨by rfl,?_⟩) ?_ ?_
          rotate_left
          ·
           intro w'
           go_simp
           with_reducible rfl
          rotate_left
          ·
           simp only [Act.put,List.setIfInBounds_toArray,List.set_cons_zero,List.set_cons_succ,Yj,Yu]
           rfl
          refine ZE (i:=1) (N:=some 20) (v:=?_) (a':=?_) #[true,true,false,false,false,false,false,false,false,false,false,false,false,false,false,false] rfl rfl (Zb HT_.out (by kernel_rfl)) (fun _ _ _ h=>h) (Or.inl ⟨by rfl,?_⟩) ?_ ?_
          rotate_left
          ·
           intro w'
           go_simp
           with_reducible rfl
          rotate_left
          ·
           simp only [Act.put,List.setIfInBounds_toArray,List.set_cons_zero,List.set_cons_succ,Yj,Yu]
           rfl
          refine ZE (i:=2) (N:=some 21) (v:=?_) (a':=?_) #[true,true,true,false,false,false,false,false,false,false,false,false,false,false,false,false] rfl rfl (Zb HT_.out (by kernel_rfl)) (fun _ _ _ h=>h) (Or.inl ⟨by rfl,?_⟩) ?_ ?_
          rotate_left
          ·
           intro w'
           go_simp
           with_reducible rfl
          rotate_left
          ·
           simp only [Act.put,List.setIfInBounds_toArray,List.set_cons_zero,List.set_cons_succ,Yj,Yu]
           rfl
          refine ZE (i:=4) (N:=some 23) (v:=?_) (a':=?_) #[true,true,true,false,true,false,false,false,false,false,false,false,false,false,false,false] rfl rfl (Zb HT_.out (by kernel_rfl)) (fun _ _ _ h=>h) (Or.inl ⟨by rfl,?_⟩) ?_ ?_
          rotate_left
          ·
           intro w'
           go_simp
           with_reducible rfl
          rotate_left
          ·
           simp only [Act.put,List.setIfInBounds_toArray,List.set_cons_zero,List.set_cons_succ,Yj,Yu]
           rfl
          refine ZE (i:=5) (N:=some 24) (v:=?_) (a':=?_) #[true,true,true,false,true,true,false,false,false,false,false,false,false,false,false,false] rfl rfl (Zb HT_.out (by kernel_rfl)) (fun _ _ _ h=>h) (Or.inl ⟨by rfl,?_⟩) ?_ ?_
          rotate_left
          ·
           intro w'
           go_simp
           with_reducible rfl
          rotate_left
          ·
           simp only [Act.put,List.setIfInBounds_toArray,List.set_cons_zero,List.set_cons_succ,Yj,Yu]
           rfl
          refine ZE (i:=6) (N:=some 25) (v:=?_) (a':=?_) #[true,true,true,false,true,true,true,false,false,false,false,false,false,false,false,false] rfl rfl (Zb HT_.out (by kernel_rfl)) (fun _ _ _ h=>h) (Or.inl ⟨by rfl,?_⟩) ?_ ?_
          rotate_left
          ·
           intro w'
           go_simp
           with_reducible rfl
          rotate_left
          ·
           simp only [Act.put,List.setIfInBounds_toArray,List.set_cons_zero,List.set_cons_succ,Yj,Yu]
           rfl
          refine ZE (i:=8) (N:=some 27) (v:=?_) (a':=?_) #[true,true,true,false,true,true,true,false,true,false,false,false,false,false,false,false] rfl rfl (Zb HT_.out (by kernel_rfl)) (fun _ _ _ h=>h) (Or.inl ⟨by rfl,?_⟩) ?_ ?_
          rotate_left
          ·
           intro w'
           go_simp
           with_reducible rfl
          rotate_left
          ·
           simp only [Act.put,List.setIfInBounds_toArray,List.set_cons_zero,List.set_cons_succ,Yj,Yu]
           rfl
          refine Oh (i:=3) (N:=some 22) (v:=?_) (a':=?_) #[true,true,true,true,true,true,true,false,true,false,false,false,false,false,false,false] rfl rfl (JI HT_.out HW_.out (by kernel_rfl)) (fun _ _ _ h=>h) (Or.inl ⟨by rfl,?_⟩) hHeld ?_ ?_
          rotate_left
          ·
           rintro w' ⟨s0,s1,s2,s3⟩
           go_simp
           with_reducible rfl
          rotate_left
          ·
           simp only [Act.put,List.setIfInBounds_toArray,List.set_cons_zero,List.set_cons_succ,Yj,Yu]
           rfl
          refine Oh (i:=7) (N:=some 26) (v:=?_) (a':=?_) #[true,true,true,true,true,true,true,true,true,false,false,false,false,false,false,false] rfl rfl (JI HT_.out HW_.out (by kernel_rfl)) (fun _ _ _ h=>h) (Or.inl ⟨by rfl,?_⟩) hHeld ?_ ?_
          rotate_left
          ·
           rintro w' ⟨s0,s1,s2,s3⟩
           go_simp
           with_reducible rfl
          rotate_left
          ·
           simp only [Act.put,List.setIfInBounds_toArray,List.set_cons_zero,List.set_cons_succ,Yj,Yu]
           rfl
          refine ZE (i:=9) (N:=some 28) (v:=?_) (a':=?_) #[true,true,true,true,true,true,true,true,true,true,false,false,false,false,false,false] rfl rfl (Zb HT_.out (by kernel_rfl)) (fun _ _ _ h=>h) (Or.inl ⟨by rfl,?_⟩) ?_ ?_
          rotate_left
          ·
           intro w'
           go_simp
           with_reducible rfl
          rotate_left
          ·
           simp only [Act.put,List.setIfInBounds_toArray,List.set_cons_zero,List.set_cons_succ,Yj,Yu]
           rfl
          refine Oh (i:=10) (N:=some 29) (v:=?_) (a':=?_) #[true,true,true,true,true,true,true,true,true,true,true,false,false,false,false,false] rfl rfl (JI HT_.out HW_.out (by kernel_rfl)) (fun _ _ _ h=>h) (Or.inl ⟨by rfl,?_⟩) hHeld ?_ ?_
          rotate_left
          ·
           rintro w' ⟨s0,s1,s2,s3⟩
           go_simp
           with_reducible rfl
          rotate_left
          ·
           simp only [Act.put,List.setIfInBounds_toArray,List.set_cons_zero,List.set_cons_succ,Yj,Yu]
           rfl
          refine one_ (i:=11) (N:=some 30) #[true,true,true,true,true,true,true,true,true,true,true,true,false,false,false,false] rfl rfl (KE HT_.out (by kernel_rfl)) (by decide) (fun K hK => ?_);refine qdV Try.func68 (by kernel_rfl) rfl #[.agg #[.int .i64 ((YM (Jr l2 Z1) a3).f0),.int .i64 ((YM (Jr l2 Z1) a3).f1)]] 22 (by rfl) rfl rfl rfl (by (try simp only [List.map_toArray,List.map_cons,List.map_nil]);first|done|rfl|(simp only [List.length_drop,List.length_take];rfl)) ?_
          with_reducible refine (G1.calls ((YM (Jr l2 Z1) a3).f0) ((YM (Jr l2 Z1) a3).f1) Xw _ A12.out).mono ?_
          rintro e w15 ⟨rfl,hb⟩;refine ⟨_,rfl,?_⟩;have n0_:=Q0.mk (Kd.R_below (by (with_reducible repeat (first|apply Kd.R_alloc|apply Kd.R_drewN|apply Kd.R_drew));exact HO_9.out) hb);have n1_:=Q0.mk (Qe (g:=UI) (o:=.cells #[.func (.func 68) #[] #[]] 104 (0,0)) (by (with_reducible repeat (first|refine Q4 ?_ _|refine Q7 ?_|refine Q2 ?_ _));exact Jc.out) hb);have n2_:=Q0.mk (Qm (by repeat (first|(with_reducible first|exact HB.out|apply Q3|apply Q1|apply Q6|refine Q5 ?_ Uy.out)|exact HB.out)) hb);clear HO_9 Jc HB;have HO_9:=n0_;have Jc:=n1_;have HB:=n2_;clear n0_ n1_ n2_
          (try clear hb)
          (try clear hb2)
          (try clear hk)
          (try clear hi)
          refine hK.out _ _ ⟨(Q8 Jc.out 0).trans rfl,((HB.out.cell (World.block_lt_of_cell? w _ Jm)).trans Jm),((HB.out.cell (World.block_lt_of_cell? w _ Jn)).trans Jn),((HB.out.cell (World.block_lt_of_cell? w _ Jo)).trans Jo)⟩ (fun hHeld => ?_);clear hK K;refine Gl (a':=?_) ?_ ?_
          rotate_left
          ·
           show Act.put _ (some 30) _=_
           simp only [Act.put,List.setIfInBounds_toArray,List.set_cons_zero,List.set_cons_succ,Yj,Yu]
           rfl
          refine ZE (i:=12) (N:=some 31) (v:=?_) (a':=?_) #[true,true,true,true,true,true,true,true,true,true,true,true,true,false,false,false] rfl rfl (Zb HT_.out (by kernel_rfl)) (fun _ _ _ h=>h) (Or.inl ⟨by rfl,?_⟩) ?_ ?_
          rotate_left
          ·
           intro w'
           go_simp
           with_reducible rfl
          rotate_left
          ·
           simp only [Act.put,List.setIfInBounds_toArray,List.set_cons_zero,List.set_cons_succ,Yj,Yu]
           rfl
          refine one_ (i:=13) (N:=some 32) #[true,true,true,true,true,true,true,true,true,true,true,true,true,true,false,false] rfl rfl (KE HT_.out (by kernel_rfl)) (by decide) (fun K hK => ?_);refine qhK (w1:=?_) (v:=?_) (by rfl) rfl ?_ ?_
          rotate_left 2
          ·
           go_simp
           constructor
           ·
            rfl
           rfl
          refine hK.out _ _ ⟨(Q8 (Q2 Jc.out _) 0).trans rfl,(World.cell?_alloc_lt _ _ _ (World.block_lt_of_cell? _ _ (((HB.out.cell (World.block_lt_of_cell? w _ Jm)).trans Jm)))).trans (((HB.out.cell (World.block_lt_of_cell? w _ Jm)).trans Jm)),(World.cell?_alloc_lt _ _ _ (World.block_lt_of_cell? _ _ (((HB.out.cell (World.block_lt_of_cell? w _ Jn)).trans Jn)))).trans (((HB.out.cell (World.block_lt_of_cell? w _ Jn)).trans Jn)),(World.cell?_alloc_lt _ _ _ (World.block_lt_of_cell? _ _ (((HB.out.cell (World.block_lt_of_cell? w _ Jo)).trans Jo)))).trans (((HB.out.cell (World.block_lt_of_cell? w _ Jo)).trans Jo))⟩ (fun hHeld => ?_);clear hK K;refine Gl (a':=?_) ?_ ?_
          rotate_left
          ·
           show Act.put _ (some 32) _=_
           simp only [Act.put,List.setIfInBounds_toArray,List.set_cons_zero,List.set_cons_succ,Yj,Yu]
           rfl
          refine one_ (i:=14) (N:=some 33) #[true,true,true,true,true,true,true,true,true,true,true,true,true,true,true,false] rfl rfl (KE HT_.out (by kernel_rfl)) (by decide) (fun K hK => ?_);refine Kd.R_append_step (Kd.int .i64) (w0:=w) w.heap.size (by rfl) (.tmp 19) (.tmp 32) 37 3 (.int .i64 0) 8 rfl Try.underlying37 Xc rfl (by decide) (by omega) u9 Od (wrap64 ((rd l1 Z1)*Xw)) [.int .i64 (wrap64 ((rd l1 Z1)*Xw))] (fun _=>True) (fun _=>False) rfl rfl ?aP (fun _ hk=>hk.elim) ?aF ?aO ?aB ?aS ?aL ?_
          (case aP=>exact rfl)
          (case aB=>exact (by repeat (first|(with_reducible first|exact HB.out|apply Q3|apply Q1|apply Q6|refine Q5 ?_ Uy.out)|exact HB.out)))
          (case aF=>exact (fun _ _=>trivial))
          (case aO=>exact (by (with_reducible repeat (first|apply Kd.R_alloc|apply Kd.R_drewN|apply Kd.R_drew));exact HO_9.out))
          (case aS=>exact (Qf (by repeat (first|(with_reducible first|exact HB.out|apply Q3|apply Q1|apply Q6|refine Q5 ?_ Uy.out)|exact HB.out))))
          (case aL=>have:=qjV.out;omega)
          intro v139 w16 ho hb hg hat;rw [← qjZ.out] at ho;have n0_:=Q0.mk (JK (g:=UI) (o:=.cells #[.func (.func 68) #[] #[]] 104 (0,0)) (by (with_reducible repeat (first|refine Q4 ?_ _|refine Q7 ?_|refine Q2 ?_ _));exact Jc.out) hg (Kd.R_ne HO_9.out Jc.out (by decide)));have n1_:=Q0.mk (hb);have n2_:=Q0.mk (ho);clear Jc HB HO_9;have Jc:=n0_;have HB:=n1_;have qjS:=n2_;clear n0_ n1_ n2_ ho hb hg hat;refine hK.out _ _ ⟨(Q8 Jc.out 0).trans rfl,((HB.out.cell (World.block_lt_of_cell? w _ Jm)).trans Jm),((HB.out.cell (World.block_lt_of_cell? w _ Jn)).trans Jn),((HB.out.cell (World.block_lt_of_cell? w _ Jo)).trans Jo)⟩ (fun hHeld => ?_);clear hK K;refine Gl (a':=?_) ?_ ?_
          rotate_left
          ·
           show Act.put _ (some 33) _=_
           simp only [Act.put,List.setIfInBounds_toArray,List.set_cons_zero,List.set_cons_succ,Yj,Yu]
           rfl
          refine ZE (i:=15) (N:=some 9) (v:=?_) (a':=?_) #[true,true,true,true,true,true,true,true,true,true,true,true,true,true,true,true] rfl rfl (Zb HT_.out (by kernel_rfl)) (fun _ _ _ h=>h) (Or.inl ⟨by rfl,?_⟩) ?_ ?_
          rotate_left
          ·
           intro w'
           go_simp
           with_reducible rfl
          rotate_left
          ·
           simp only [Act.put,List.setIfInBounds_toArray,List.set_cons_zero,List.set_cons_succ,Yj,Yu]
           rfl
          refine qdl (XI HT_.out (by kernel_rfl)) ?_
          try go_wp2
          go_roundg k1
          case measure=>have:=HK1.out;omega
          case rel=>exact ⟨(qls),(wrap64 (Z1+1)),(by first|rfl|(simp;done)|(simp [*];done)),H',⟨by have:=HK1.out;omega⟩,⟨by (with_reducible repeat (first|apply Kd.R_alloc|apply Kd.R_drewN|apply Kd.R_drew));exact qjS.out⟩,⟨by (with_reducible repeat (first|refine Q4 ?_ _|refine Q7 ?_|refine Q2 ?_ _));exact Jc.out⟩,⟨by repeat (first|(with_reducible first|exact HB.out|apply Q3|apply Q1|apply Q6|refine Q5 ?_ Uy.out)|exact HB.out)⟩⟩
         rw [if_neg c13] at H
         exact absurd H (by simp)
        rw [if_neg c11] at H
        exact absurd H (by simp)
       rw [if_neg c10] at H
       exact absurd H (by simp)
      rw [if_neg c9] at H
      exact absurd H (by simp)
     rw [if_neg c8] at H
     exact absurd H (by simp)
    rw [if_neg c7] at H
    exact absurd H (by simp)
   rw [if_neg c6] at H
   have c6b0:decide (Z1<(l1.length:Int))=false:=decide_eq_false c6
   clear c6
   replace H:=Option.bind_eq_some_iff.mp H
   obtain ⟨t141,qe3,H⟩:=H
   replace H:(some t141)=some r:=H
   have A17:=Q0.mk qe3
   clear qe3
   obtain rfl:=Option.some.inj H
   obtain ⟨qlv,qlK,qko⟩:=Kd.R_slice HO_9.out
   subst qko
   go_wp2_with (first|((with_reducible refine Qx (f:=97) rfl ?_);refine YL (some 36) rfl rfl Try.func97 (by kernel_rfl) rfl #[.slice qlv Od.length qlK] rfl (by (try simp only [List.map_toArray,List.map_cons,List.map_nil]);first|done|rfl|(simp only [List.length_drop,List.length_take];rfl)) ?_;(with_reducible refine (QY.calls k1 _ _ Od t141 _ ?side1 ?side2 A17.out).mono ?_);(case side1=>repeat (first|exact (Kd.R_reads' HO_9.out).2.2|(with_reducible refine Kd.C_alloc ?_ _)|(with_reducible refine Kd.C_drewN ?_ _)|(with_reducible refine Kd.C_drew ?_)));(case side2=>exact (Kd.R_reads' HO_9.out).2.1);rintro e w' ⟨rfl,⟨nd,rfl⟩⟩;refine ⟨_,rfl,?_⟩))
   go_ret
   exact ⟨by first|rfl|(simp [Qq,Qr]<;>rfl)|(simp [*,Qq,Qr]<;>rfl),by repeat (first|(with_reducible first|exact HB.out|apply Q3|apply Q1|apply Q6|refine Q5 ?_ Uy.out)|exact HB.out)⟩
end
section
attribute [local go_sem] Yn Yp YA YC Yb Yc Yo Yq
def QF.l0:Nat→List (List (S25))→Int→List Int→List Int→Int→Int→Option (Int)
 | 0,_,_,_,_,_,_=>none
 | k+1,x2,x3,x9,x12,x13,x14=>if x14<x13 then (if 0≤x14 then (if x14<(x12.length:Int) then (if x14<(x2.length:Int) then (if 0≤x3 then (if x3<((Jr x2 x14).length:Int) then ((JM.f ((YM (Jr x2 x14) x3).f0) ((YM (Jr x2 x14) x3).f1)).bind fun Xw=>(if x9.length<17592186044416 then (QF.l0 k x2 x3 (x9++[wrap64 ((rd x12 x14)*Xw)]) x12 x13 (wrap64 (x14+1))) else (none))) else (none)) else (none)) else (none)) else (none)) else (none)) else ((QY.f k x9).bind fun t141=>(some t141))
def QF.f (k:Nat) (Oe:Int) (l1:List Int) (l2:List (List (S25))) (a3:Int):Option (Int):=QF.l0 k l2 a3 ([]:List Int) l1 (l1.length:Int) 0
theorem QF.mono_l:∀ k,(∀ y0 y1 y2 y3 y4 y5,LeO (QF.l0 k y0 y1 y2 y3 y4 y5) (QF.l0 (k+1) y0 y1 y2 y3 y4 y5))
 | 0=>fun _ _ _ _ _ _ r h=>by simp [QF.l0] at h
 | k+1=>by
  have ih0:=QF.mono_l k
  intro y0 y1 y2 y3 y4 y5
  unfold QF.l0
  repeat' first
  | (with_reducible exact ih0 _ _ _ _ _ _)
  | (with_reducible exact QY.mono _ _)
  | (with_reducible exact LeO.refl _)
  | (with_reducible exact LeO.none _)
  | (with_reducible refine LeO.ite ?_ ?_)
  | (with_reducible refine LeO.bind ?_ (fun _ => ?_))
  | exact ih0 _ _ _ _ _ _
  | exact QY.mono _ _
  | exact LeO.none _
  | refine LeO.ite ?_ ?_
  | refine LeO.bind ?_ (fun _ => ?_)
theorem QF.mono:∀ a0 a1 a2 a3 k,LeO (QF.f k a0 a1 a2 a3) (QF.f (k+1) a0 a1 a2 a3):=by
 intro a0 a1 a2 a3 k
 have ih0:=QF.mono_l k
 unfold QF.f
 repeat' first
   | (with_reducible exact ih0 _ _ _ _ _ _)
   | (with_reducible exact QY.mono _ _)
   | (with_reducible exact LeO.refl _)
   | (with_reducible exact LeO.none _)
   | (with_reducible refine LeO.ite ?_ ?_)
   | (with_reducible refine LeO.bind ?_ (fun _ => ?_))
   | exact ih0 _ _ _ _ _ _
   | exact QY.mono _ _
   | exact LeO.none _
   | refine LeO.ite ?_ ?_
   | refine LeO.bind ?_ (fun _ => ?_)
def QF.T5:Bool × List (List Nat × List Nat):=(true,[([],[]),([],[]),([],[]),([2],[2]),([],[]),([],[]),([4,5],[4,5]),([6],[6]),([],[]),([7,8],[7,8]),([9],[9]),([3,10],[3,10]),([1,11],[1,11]),([12],[12]),([0,13,11],[0,13]),([14,14,0,1,2,3,4,5,6,7,8,9,10,11,12,13,14],[0,14])])
def QF.B5:List Nat:=[0,0,0,4,0,0,48,112,0,496,1008,2044,4094,8190,16383,32767]
theorem QF.tab5:rtab .any (qfY Try.f71 5)=QF.T5:=by kernel_rfl
theorem QF.bits5:Oz QF.T5.2 QF.B5=true:=by kernel_rfl
set_option maxHeartbeats 8000000 in
set_option maxRecDepth 100000 in
theorem QF.calls (k:Nat) (Oe:Int) (A1:Option Addr) (c1:Nat) (l1:List Int) (A2:Option Addr) (c2:Nat) (l2:List (List (S25))) (a3:Int) (r:Int) (w:World) (hr1:Kd.C (Kd.int .i64) w A1 l1.length l1) (hc1:l1.length≤c1) (hr2:Kd.C (Kd.slice 25 k25) w A2 l2.length l2) (hc2:l2.length≤c2) (h:QF.f k Oe l1 l2 a3=some r) :
  Calls Try.prog 71 #[.agg #[.func (.func 69) #[] #[]],.slice A1 l1.length c1,.slice A2 l2.length c2,.int .i64 a3] w fun e w'=>e = .returned (.int .i64 r)∧Below w.heap.size w w':=by
 have qs5:=Try.underlying104
 have qbf:=Try.underlying25
 have HR1:=Q0.mk hr1
 have HC1:=Q0.mk hc1
 clear hr1 hc1
 have HR2:=Q0.mk hr2
 have HC2:=Q0.mk hc2
 clear hr2 hc2
 have HB:=Q0.mk (Below.refl w.heap.size w)
 have H:(QF.l0 k l2 a3 ([]:List Int) l1 (l1.length:Int) 0)=some r:=h
 clear h
 have H':=Q0.mk H
 clear H
 go_enter Try.func71,Try.ntmps71
 go_wp2_with (first|((with_reducible refine QW (N:=4) rfl ?_);refine Yw ?hg (N:=4) ?hd (cs:=#[.func (.func 69) #[] #[]]) (t:=104) ?hr ?_;(case hd=>rfl);(case hg=>rfl);(case hr=>first|(go_simp;done)|(go_simp;rfl));intro UI hg w5 hbox hb;have n0_:=Q0.mk (Qm (by repeat (first|(with_reducible first|exact HB.out|apply Q3|apply Q1|apply Q6)|exact HB.out)) hb);have n1_:=Q0.mk (hbox);have n2_:=Q0.mk ((by rw [hg];exact (Qf (by repeat (first|(with_reducible first|exact HB.out|apply Q3|apply Q1|apply Q6)|exact HB.out))):w.heap.size≤UI));have n3_:=n2_;clear HB;have HB:=n0_;have Jc:=n1_;have qqA:=n2_;have Uy:=n3_;clear n0_ n1_ n2_ n3_ hb hbox hg))
 go_loopg [9,14] k (fun kq v9 v14 w' => ∃ (Od:List Int) (Z1:Int),v14 = .int .i64 Z1∧Q0 (QF.l0 kq l2 a3 Od l1 (l1.length:Int) Z1=some r)∧Q0 (kq≤k)∧Q0 (Kd.R (Kd.int .i64) 3 w' w.heap.size (fun _=>True) v9 Od)∧Q0 (w'.heap[UI]? = some (.cells #[.func (.func 69) #[] #[]] 104 (0,0)))∧Q0 (Below w.heap.size w w'))
 case atStart=>exact ⟨(([]:List Int)),(0),(by first|rfl|(simp;done)|(simp [*];done)),H',⟨Nat.le_refl _⟩,⟨by first|exact Kd.R_nil _ _ _ _ _|exact Kd.N_nil _ _ _ _ _|exact Kd.V_nil _ _ _ _ _|exact Kd.Q_nil _ _ _ _ _|exact Kd.S_nil _ _ _ _ _⟩,⟨by (with_reducible repeat (first|refine Q4 ?_ _|refine Q7 ?_|refine Q2 ?_ _));exact Jc.out⟩,⟨by repeat (first|(with_reducible first|exact HB.out|apply Q3|apply Q1|apply Q6|refine Q5 ?_ Uy.out)|exact HB.out)⟩⟩
 case round =>
  clear H'
  try clear c1
  try clear c2
  try clear p2
  obtain ⟨Od,Z1,rfl,HA,HK1,HO_9,Jc,HB⟩:=hrel
  cases gk with
  | zero=>exact absurd HA.out (by simp [QF.l0])
  | succ k1 =>
   have H:=HA.out
   clear HA
   simp only [QF.l0] at H
   by_cases c6:Z1<(l1.length:Int)
   ·
    rw [if_pos c6] at H;have c6b0:decide (Z1<(l1.length:Int))=true:=decide_eq_true c6;clear c6
    by_cases c7:0≤Z1
    ·
     rw [if_pos c7] at H;have c7b0:decide (0≤Z1)=true:=decide_eq_true c7;clear c7
     by_cases c8:Z1<(l1.length:Int)
     ·
      rw [if_pos c8] at H;have c8b0:decide (Z1<(l1.length:Int))=true:=decide_eq_true c8;clear c8
      by_cases c9:Z1<(l2.length:Int)
      ·
       rw [if_pos c9] at H;have c9b0:decide (Z1<(l2.length:Int))=true:=decide_eq_true c9;clear c9
       by_cases c10:0≤a3
       ·
        rw [if_pos c10] at H;have c10b0:decide (0≤a3)=true:=decide_eq_true c10;clear c10
        by_cases c11:a3<((Jr l2 Z1).length:Int)
        ·
         rw [if_pos c11] at H;have c11b0:decide (a3<((Jr l2 Z1).length:Int))=true:=decide_eq_true c11;clear c11;replace H:=Option.bind_eq_some_iff.mp H;obtain ⟨Xw,qb4,H⟩:=H;replace H:(if Od.length<17592186044416 then (QF.l0 k1 l2 a3 (Od++[wrap64 ((rd l1 Z1)*Xw)]) l1 (l1.length:Int) (wrap64 (Z1+1))) else (none))=some r:=H;have A12:=Q0.mk qb4;clear qb4
         by_cases c13:Od.length<17592186044416
         ·
          rw [if_pos c13] at H;have qjV:=Q0.mk c13;clear c13;obtain ⟨qls,Wy⟩:∃ y_:List Int,y_=(Od++[wrap64 ((rd l1 Z1)*Xw)]):=⟨_,rfl⟩
          replace H:(QF.l0 k1 l2 a3 qls l1 (l1.length:Int) (wrap64 (Z1+1)))=some r:=by first|(rw [Wy];with_reducible exact H)|(have H2_:=(Option.bind_some _ _).symm.trans H;rw [Wy];with_reducible exact H2_)|(have H2_:=(Option.bind_some _ _).symm.trans H;with_reducible exact H2_)|with_reducible exact H|(rw [Wy];exact H)|exact H
          have qjZ:=Q0.mk Wy;clear Wy;have H':=Q0.mk H;clear H;have qhb:0≤(Z1:Int):=of_decide_eq_true (by first|(with_reducible assumption)|assumption);have qho:Z1<(l1.length:Int):=of_decide_eq_true (by first|(with_reducible assumption)|assumption);obtain ⟨qqT,qpi,UX⟩:=Kd.at_int HR1.out Z1 qhb qho;cases qpi;replace UX:=(HB.out.cell (World.block_lt_of_cell? w _ UX)).trans UX;replace qhb:=eq_true qhb;replace qho:=eq_true qho
          try go_wp2
          have n0_:=Q0.mk (Kd.R_drew HO_9.out);have n1_:=Q0.mk (Q7 Jc.out);have n2_:=Q0.mk (Q6 HB.out);clear HO_9 Jc HB;have HO_9:=n0_;have Jc:=n1_;have HB:=n2_;clear n0_ n1_ n2_;have qhc:0≤(Z1:Int):=of_decide_eq_true (by first|(with_reducible assumption)|assumption);have qhp:Z1<(l2.length:Int):=of_decide_eq_true (by first|(with_reducible assumption)|assumption);obtain ⟨qj4,qoQ,qgL,qpj,KA,qam,qai⟩:=qj9 HR2.out Z1 qhc qhp;have Jm:=KA;cases qpj;replace KA:=(HB.out.cell (World.block_lt_of_cell? w _ KA)).trans KA;have XC:=Q0.mk qai;have qlC:=Q0.mk qam;clear qai qam;replace qhc:=eq_true qhc;replace qhp:=eq_true qhp;have qhd:0≤(a3:Int):=of_decide_eq_true (by first|(with_reducible assumption)|assumption);have qhq:a3<((Jr l2 Z1).length:Int):=of_decide_eq_true (by first|(with_reducible assumption)|assumption);obtain ⟨XF,qpk,KB,KC⟩:=UT XC.out a3 qhd qhq;have Jo:=KC;have Jn:=KB;cases qpk;replace KB:=(HB.out.cell (World.block_lt_of_cell? w _ KB)).trans KB;replace KC:=(HB.out.cell (World.block_lt_of_cell? w _ KC)).trans KC;replace qhd:=eq_true qhd;replace qhq:=eq_true qhq;refine qaS (n:=16) (S:=fun w'=>w'.cell? ⟨UI,0,none⟩=some (.func (.func 69) #[] #[])∧w'.cell? (qj4.add (Z1).toNat)=some (.slice (some XF) (Jr l2 Z1).length qgL)∧w'.cell? (XF.add ((a3).toNat*2))=some (.int .i64 ((YM (Jr l2 Z1) a3).f0))∧w'.cell? ⟨(XF.add ((a3).toNat*2)).block,(XF.add ((a3).toNat*2)).off+1,none⟩=some (.int .i64 ((YM (Jr l2 Z1) a3).f1))) (ds:=[]) #[false,false,false,false,false,false,false,false,false,false,false,false,false,false,false,false] (by kernel_rfl) rfl rfl ⟨(Q8 Jc.out 0).trans rfl,((HB.out.cell (World.block_lt_of_cell? w _ Jm)).trans Jm),((HB.out.cell (World.block_lt_of_cell? w _ Jn)).trans Jn),((HB.out.cell (World.block_lt_of_cell? w _ Jo)).trans Jo)⟩ (fun hHeld => ?_);refine UO QF.tab5 QF.bits5 (fun HT_ HW_ => ?_)
          generalize wr.drew=w14 at HO_9 Jc HB XC KA KB KC hHeld ⊢
          refine ZE (i:=0) (N:=some 19) (v:=?_) (a':=?_) #[true,false,false,false,false,false,false,false,false,false,false,false,false,false,false,false] rfl rfl (Zb HT_.out (by kernel_rfl)) (fun _ _ _ h=>h) (Or.inl ⟨by rfl,?_⟩) ?_ ?_
          rotate_left
          ·
           intro w'
           go_simp
           with_reducible rfl
          rotate_left
          ·
           simp only [Act.put,List.setIfInBounds_toArray,List.set_cons_zero,List.set_cons_succ,Yj,Yu]
           rfl
          refine ZE (i:=1) (N:=some 20) (v:=?_) (a':=?_) #[true,true,false,false,false,false,false,false,false,false,false,false,false,false,false,false] rfl rfl (Zb HT_.out (by kernel_rfl)) (fun _ _ _ h=>h) (Or.inl ⟨by rfl,?_⟩) ?_ ?_
          rotate_left
          ·
           intro w'
           go_simp
           with_reducible rfl
          rotate_left
          ·
           simp only [Act.put,List.setIfInBounds_toArray,List.set_cons_zero,List.set_cons_succ,Yj,Yu]
           rfl
          refine ZE (i:=2) (N:=some 21) (v:=?_) (a':=?_) #[true,true,true,false,false,false,false,false,false,false,false,false,false,false,false,false] rfl rfl (Zb HT_.out (by kernel_rfl)) (fun _ _ _ h=>h) (Or.inl ⟨by rfl,?_⟩) ?_ ?_
          rotate_left
          ·
           intro w'
           go_simp
           with_reducible rfl
          rotate_left
          ·
           simp only [Act.put,List.setIfInBounds_toArray,List.set_cons_zero,List.set_cons_succ,Yj,Yu]
           rfl
          refine ZE (i:=4) (N:=some 23) (v:=?_) (a':=?_) #[true,true,true,false,true,false,false,false,false,false,false,false,false,false,false,false] rfl rfl (Zb HT_.out (by kernel_rfl)) (fun _ _ _ h=>h) (Or.inl ⟨by rfl,?_⟩) ?_ ?_
          rotate_left
          ·
           intro w'
           go_simp
           with_reducible rfl
          rotate_left
          ·
           simp only [Act.put,List.setIfInBounds_toArray,List.set_cons_zero,List.set_cons_succ,Yj,Yu]
           rfl
          refine ZE (i:=5) (N:=some 24) (v:=?_) (a':=?_) #[true,true,true,false,true,true,false,false,false,false,false,false,false,false,false,false] rfl rfl (Zb HT_.out (by kernel_rfl)) (fun _ _ _ h=>h) (Or.inl ⟨by rfl,?_⟩) ?_ ?_
          rotate_left
          ·
           intro w'
           go_simp
           with_reducible rfl
          rotate_left
          ·
           simp only [Act.put,List.setIfInBounds_toArray,List.set_cons_zero,List.set_cons_succ,Yj,Yu]
           rfl
          refine ZE (i:=6) (N:=some 25) (v:=?_) (a':=?_) #[true,true,true,false,true,true,true,false,false,false,false,false,false,false,false,false] rfl rfl (Zb HT_.out (by kernel_rfl)) (fun _ _ _ h=>h) (Or.inl ⟨by rfl,?_⟩) ?_ ?_
          rotate_left
          ·
           intro w'
           go_simp
           with_reducible rfl
          rotate_left
          ·
           simp only [Act.put,List.setIfInBounds_toArray,List.set_cons_zero,List.set_cons_succ,Yj,Yu]
           rfl
          refine ZE (i:=8) (N:=some 27) (v:=?_) (a':=?_) #[true,true,true,false,true,true,true,false,true,false,false,false,false,false,false,false] rfl rfl (Zb HT_.out (by kernel_rfl)) (fun _ _ _ h=>h) (Or.inl ⟨by rfl,?_⟩) ?_ ?_
          rotate_left
          ·
           intro w'
           go_simp
           with_reducible rfl
          rotate_left
          ·
           simp only [Act.put,List.setIfInBounds_toArray,List.set_cons_zero,List.set_cons_succ,Yj,Yu]
           rfl
          refine Oh (i:=3) (N:=some 22) (v:=?_) (a':=?_) #[true,true,true,true,true,true,true,false,true,false,false,false,false,false,false,false] rfl rfl (JI HT_.out HW_.out (by kernel_rfl)) (fun _ _ _ h=>h) (Or.inl ⟨by rfl,?_⟩) hHeld ?_ ?_
          rotate_left
          ·
           rintro w' ⟨s0,s1,s2,s3⟩
           go_simp
           with_reducible rfl
          rotate_left
          ·
           simp only [Act.put,List.setIfInBounds_toArray,List.set_cons_zero,List.set_cons_succ,Yj,Yu]
           rfl
          refine Oh (i:=7) (N:=some 26) (v:=?_) (a':=?_) #[true,true,true,true,true,true,true,true,true,false,false,false,false,false,false,false] rfl rfl (JI HT_.out HW_.out (by kernel_rfl)) (fun _ _ _ h=>h) (Or.inl ⟨by rfl,?_⟩) hHeld ?_ ?_
          rotate_left
          ·
           rintro w' ⟨s0,s1,s2,s3⟩
           go_simp
           with_reducible rfl
          rotate_left
          ·
           simp only [Act.put,List.setIfInBounds_toArray,List.set_cons_zero,List.set_cons_succ,Yj,Yu]
           rfl
          refine ZE (i:=9) (N:=some 28) (v:=?_) (a':=?_) #[true,true,true,true,true,true,true,true,true,true,false,false,false,false,false,false] rfl rfl (Zb HT_.out (by kernel_rfl)) (fun _ _ _ h=>h) (Or.inl ⟨by rfl,?_⟩) ?_ ?_
          rotate_left
          ·
           intro w'
           go_simp
           with_reducible rfl
          rotate_left
          ·
           simp only [Act.put,List.setIfInBounds_toArray,List.set_cons_zero,List.set_cons_succ,Yj,Yu]
           rfl
          refine Oh (i:=10) (N:=some 29) (v:=?_) (a':=?_) #[true,true,true,true,true,true,true,true,true,true,true,false,false,false,false,false] rfl rfl (JI HT_.out HW_.out (by kernel_rfl)) (fun _ _ _ h=>h) (Or.inl ⟨by rfl,?_⟩) hHeld ?_ ?_
          rotate_left
          ·
           rintro w' ⟨s0,s1,s2,s3⟩
           go_simp
           with_reducible rfl
          rotate_left
          ·
           simp only [Act.put,List.setIfInBounds_toArray,List.set_cons_zero,List.set_cons_succ,Yj,Yu]
           rfl
          refine one_ (i:=11) (N:=some 30) #[true,true,true,true,true,true,true,true,true,true,true,true,false,false,false,false] rfl rfl (KE HT_.out (by kernel_rfl)) (by decide) (fun K hK => ?_);refine qdV Try.func69 (by kernel_rfl) rfl #[.agg #[.int .i64 ((YM (Jr l2 Z1) a3).f0),.int .i64 ((YM (Jr l2 Z1) a3).f1)]] 22 (by rfl) rfl rfl rfl (by (try simp only [List.map_toArray,List.map_cons,List.map_nil]);first|done|rfl|(simp only [List.length_drop,List.length_take];rfl)) ?_
          with_reducible refine (JM.calls ((YM (Jr l2 Z1) a3).f0) ((YM (Jr l2 Z1) a3).f1) Xw _ A12.out).mono ?_
          rintro e w15 ⟨rfl,hb⟩;refine ⟨_,rfl,?_⟩;have n0_:=Q0.mk (Kd.R_below (by (with_reducible repeat (first|apply Kd.R_alloc|apply Kd.R_drewN|apply Kd.R_drew));exact HO_9.out) hb);have n1_:=Q0.mk (Qe (g:=UI) (o:=.cells #[.func (.func 69) #[] #[]] 104 (0,0)) (by (with_reducible repeat (first|refine Q4 ?_ _|refine Q7 ?_|refine Q2 ?_ _));exact Jc.out) hb);have n2_:=Q0.mk (Qm (by repeat (first|(with_reducible first|exact HB.out|apply Q3|apply Q1|apply Q6|refine Q5 ?_ Uy.out)|exact HB.out)) hb);clear HO_9 Jc HB;have HO_9:=n0_;have Jc:=n1_;have HB:=n2_;clear n0_ n1_ n2_
          (try clear hb)
          (try clear hb2)
          (try clear hk)
          (try clear hi)
          refine hK.out _ _ ⟨(Q8 Jc.out 0).trans rfl,((HB.out.cell (World.block_lt_of_cell? w _ Jm)).trans Jm),((HB.out.cell (World.block_lt_of_cell? w _ Jn)).trans Jn),((HB.out.cell (World.block_lt_of_cell? w _ Jo)).trans Jo)⟩ (fun hHeld => ?_);clear hK K;refine Gl (a':=?_) ?_ ?_
          rotate_left
          ·
           show Act.put _ (some 30) _=_
           simp only [Act.put,List.setIfInBounds_toArray,List.set_cons_zero,List.set_cons_succ,Yj,Yu]
           rfl
          refine ZE (i:=12) (N:=some 31) (v:=?_) (a':=?_) #[true,true,true,true,true,true,true,true,true,true,true,true,true,false,false,false] rfl rfl (Zb HT_.out (by kernel_rfl)) (fun _ _ _ h=>h) (Or.inl ⟨by rfl,?_⟩) ?_ ?_
          rotate_left
          ·
           intro w'
           go_simp
           with_reducible rfl
          rotate_left
          ·
           simp only [Act.put,List.setIfInBounds_toArray,List.set_cons_zero,List.set_cons_succ,Yj,Yu]
           rfl
          refine one_ (i:=13) (N:=some 32) #[true,true,true,true,true,true,true,true,true,true,true,true,true,true,false,false] rfl rfl (KE HT_.out (by kernel_rfl)) (by decide) (fun K hK => ?_);refine qhK (w1:=?_) (v:=?_) (by rfl) rfl ?_ ?_
          rotate_left 2
          ·
           go_simp
           constructor
           ·
            rfl
           rfl
          refine hK.out _ _ ⟨(Q8 (Q2 Jc.out _) 0).trans rfl,(World.cell?_alloc_lt _ _ _ (World.block_lt_of_cell? _ _ (((HB.out.cell (World.block_lt_of_cell? w _ Jm)).trans Jm)))).trans (((HB.out.cell (World.block_lt_of_cell? w _ Jm)).trans Jm)),(World.cell?_alloc_lt _ _ _ (World.block_lt_of_cell? _ _ (((HB.out.cell (World.block_lt_of_cell? w _ Jn)).trans Jn)))).trans (((HB.out.cell (World.block_lt_of_cell? w _ Jn)).trans Jn)),(World.cell?_alloc_lt _ _ _ (World.block_lt_of_cell? _ _ (((HB.out.cell (World.block_lt_of_cell? w _ Jo)).trans Jo)))).trans (((HB.out.cell (World.block_lt_of_cell? w _ Jo)).trans Jo))⟩ (fun hHeld => ?_);clear hK K;refine Gl (a':=?_) ?_ ?_
          rotate_left
          ·
           show Act.put _ (some 32) _=_
           simp only [Act.put,List.setIfInBounds_toArray,List.set_cons_zero,List.set_cons_succ,Yj,Yu]
           rfl
          refine one_ (i:=14) (N:=some 33) #[true,true,true,true,true,true,true,true,true,true,true,true,true,true,true,false] rfl rfl (KE HT_.out (by kernel_rfl)) (by decide) (fun K hK => ?_);refine Kd.R_append_step (Kd.int .i64) (w0:=w) w.heap.size (by rfl) (.tmp 19) (.tmp 32) 37 3 (.int .i64 0) 8 rfl Try.underlying37 Xc rfl (by decide) (by omega) u9 Od (wrap64 ((rd l1 Z1)*Xw)) [.int .i64 (wrap64 ((rd l1 Z1)*Xw))] (fun _=>True) (fun _=>False) rfl rfl ?aP (fun _ hk=>hk.elim) ?aF ?aO ?aB ?aS ?aL ?_
          (case aP=>exact rfl)
          (case aB=>exact (by repeat (first|(with_reducible first|exact HB.out|apply Q3|apply Q1|apply Q6|refine Q5 ?_ Uy.out)|exact HB.out)))
          (case aF=>exact (fun _ _=>trivial))
          (case aO=>exact (by (with_reducible repeat (first|apply Kd.R_alloc|apply Kd.R_drewN|apply Kd.R_drew));exact HO_9.out))
          (case aS=>exact (Qf (by repeat (first|(with_reducible first|exact HB.out|apply Q3|apply Q1|apply Q6|refine Q5 ?_ Uy.out)|exact HB.out))))
          (case aL=>have:=qjV.out;omega)
          intro v139 w16 ho hb hg hat;rw [← qjZ.out] at ho;have n0_:=Q0.mk (JK (g:=UI) (o:=.cells #[.func (.func 69) #[] #[]] 104 (0,0)) (by (with_reducible repeat (first|refine Q4 ?_ _|refine Q7 ?_|refine Q2 ?_ _));exact Jc.out) hg (Kd.R_ne HO_9.out Jc.out (by decide)));have n1_:=Q0.mk (hb);have n2_:=Q0.mk (ho);clear Jc HB HO_9;have Jc:=n0_;have HB:=n1_;have qjS:=n2_;clear n0_ n1_ n2_ ho hb hg hat;refine hK.out _ _ ⟨(Q8 Jc.out 0).trans rfl,((HB.out.cell (World.block_lt_of_cell? w _ Jm)).trans Jm),((HB.out.cell (World.block_lt_of_cell? w _ Jn)).trans Jn),((HB.out.cell (World.block_lt_of_cell? w _ Jo)).trans Jo)⟩ (fun hHeld => ?_);clear hK K;refine Gl (a':=?_) ?_ ?_
          rotate_left
          ·
           show Act.put _ (some 33) _=_
           simp only [Act.put,List.setIfInBounds_toArray,List.set_cons_zero,List.set_cons_succ,Yj,Yu]
           rfl
          refine ZE (i:=15) (N:=some 9) (v:=?_) (a':=?_) #[true,true,true,true,true,true,true,true,true,true,true,true,true,true,true,true] rfl rfl (Zb HT_.out (by kernel_rfl)) (fun _ _ _ h=>h) (Or.inl ⟨by rfl,?_⟩) ?_ ?_
          rotate_left
          ·
           intro w'
           go_simp
           with_reducible rfl
          rotate_left
          ·
           simp only [Act.put,List.setIfInBounds_toArray,List.set_cons_zero,List.set_cons_succ,Yj,Yu]
           rfl
          refine qdl (XI HT_.out (by kernel_rfl)) ?_
          try go_wp2
          go_roundg k1
          case measure=>have:=HK1.out;omega
          case rel=>exact ⟨(qls),(wrap64 (Z1+1)),(by first|rfl|(simp;done)|(simp [*];done)),H',⟨by have:=HK1.out;omega⟩,⟨by (with_reducible repeat (first|apply Kd.R_alloc|apply Kd.R_drewN|apply Kd.R_drew));exact qjS.out⟩,⟨by (with_reducible repeat (first|refine Q4 ?_ _|refine Q7 ?_|refine Q2 ?_ _));exact Jc.out⟩,⟨by repeat (first|(with_reducible first|exact HB.out|apply Q3|apply Q1|apply Q6|refine Q5 ?_ Uy.out)|exact HB.out)⟩⟩
         rw [if_neg c13] at H
         exact absurd H (by simp)
        rw [if_neg c11] at H
        exact absurd H (by simp)
       rw [if_neg c10] at H
       exact absurd H (by simp)
      rw [if_neg c9] at H
      exact absurd H (by simp)
     rw [if_neg c8] at H
     exact absurd H (by simp)
    rw [if_neg c7] at H
    exact absurd H (by simp)
   rw [if_neg c6] at H
   have c6b0:decide (Z1<(l1.length:Int))=false:=decide_eq_false c6
   clear c6
   replace H:=Option.bind_eq_some_iff.mp H
   obtain ⟨t141,qe3,H⟩:=H
   replace H:(some t141)=some r:=H
   have A17:=Q0.mk qe3
   clear qe3
   obtain rfl:=Option.some.inj H
   obtain ⟨qlv,qlK,qko⟩:=Kd.R_slice HO_9.out
   subst qko
   go_wp2_with (first|((with_reducible refine Qx (f:=97) rfl ?_);refine YL (some 36) rfl rfl Try.func97 (by kernel_rfl) rfl #[.slice qlv Od.length qlK] rfl (by (try simp only [List.map_toArray,List.map_cons,List.map_nil]);first|done|rfl|(simp only [List.length_drop,List.length_take];rfl)) ?_;(with_reducible refine (QY.calls k1 _ _ Od t141 _ ?side1 ?side2 A17.out).mono ?_);(case side1=>repeat (first|exact (Kd.R_reads' HO_9.out).2.2|(with_reducible refine Kd.C_alloc ?_ _)|(with_reducible refine Kd.C_drewN ?_ _)|(with_reducible refine Kd.C_drew ?_)));(case side2=>exact (Kd.R_reads' HO_9.out).2.1);rintro e w' ⟨rfl,⟨nd,rfl⟩⟩;refine ⟨_,rfl,?_⟩))
   go_ret
   exact ⟨by first|rfl|(simp [Qq,Qr]<;>rfl)|(simp [*,Qq,Qr]<;>rfl),by repeat (first|(with_reducible first|exact HB.out|apply Q3|apply Q1|apply Q6|refine Q5 ?_ Uy.out)|exact HB.out)⟩
end
end Go.Proofs.Ytmhomdohhihlcaa.P
namespace Go.Proofs.Ytmhomdohhihlcaa.P
open Go.RowKit Go.Shelf Go.Proofs.YtmhomdohhihlcaaW.PrintWords Go.Proofs.YtmhomdohhihlcaaW.PrintLast Go.Proofs.YtmhomdohhihlcaaW.PrintMore
attribute [local go_sem] Oper.semAt_some
section
variable {F:Fence} {n:Nat} {P:Program} {a:Act} {w:World} {Q:Exit→Act→World→Prop}
theorem Ku {b:Frame} {c:Code} {k:List Item} {cs:List Frame}:step P (lone (b.atR a (.code (.scope c)::k)) cs w) = .next (lone (b.atR a (.code c :: .inScope c::k)) cs w) :=
 step_lone_go (by simp [stepG,stepG.exec,Frame.atR])
theorem qc8 {b:Frame} {c:Code} {k:List Item} {cs:List Frame}:step P (lone (b.atR a (.inScope c::k)) cs w) = .next (lone (b.atR a k) cs w) :=
 step_lone_go (by simp [stepG,stepG.exec,Frame.atR])
theorem qhN {c:Code} (h:c.wpIn F n P (Exit.noGoto Q) a w):(Code.scope c).wpIn F n P Q a w:=by
 intro b k cs hro hb hr
 have h0:(lone (b.atR a (.code (.scope c)::k)) cs w).fenced P F:=fenced_calm hb hr rfl
 obtain ⟨e,a₁,w₁,hq,harr⟩:=h b (.inScope c::k) cs hro hb hr
 cases e with
 | normal=>exact ⟨.normal,a₁,w₁,hq,.head h0 Ku (StepsIn.trans harr (.one (fenced_calm hb hr rfl) qc8))⟩
 | exit id' =>
  have hx:exitTo id' (.inScope c::k)=exitTo id' k:=by simp [exitTo]
  exact ⟨.exit id',a₁,w₁,hq,fun k' hk => .head h0 Ku (harr.1 k' (by rw [hx];exact hk)),
    fun hr' hk=>let ⟨k₁,h1,h2⟩:=harr.2 hr' (by rw [hx];exact hk);⟨k₁,h1,.head h0 Ku h2⟩⟩
 | goto l=>exact hq.elim
 | ret=>exact ⟨_,a₁,w₁,hq,.of_steps (.one h0 Ku) harr⟩
 | panic ch=>exact ⟨_,a₁,w₁,hq,.of_steps (.one h0 Ku) harr⟩
 | outgrown=>exact ⟨_,a₁,w₁,hq,.of_steps (.one h0 Ku) harr⟩
end
structure Stop (p:Prop):Prop where
 out:p
theorem X3 {l n:Nat} {P:Program} {id:Nat} {Q:Exit→Act→World→Prop} {a:Act} {w:World} {ops:List Oper} (m:Nat) (hm:P.follows .mixedOrders=true) (hno:¬ LetsOut Q) (hd:ops.toArray.all (fun o=>match o.op with | .defer _=>false|_=>true)=true) (hB:Region.lexTailB .any ops.toArray m=true)
  (h:wpStill P ops.toArray { w with drawn:=w.drawn+1 } (fun a'=>wpList P ops.toArray Q (ops.drop m) a' { w with drawn:=w.drawn+1 }) (ops.take m) a):(Code.region id ops.toArray true).wpIn (Fence.wide.inRound l) n P Q a w:=by
 simp only [Region.lexTailB,Bool.and_eq_true,decide_eq_true_eq] at hB
 obtain ⟨⟨⟨⟨hsel,hn⟩,hs⟩,hc⟩,hlex⟩:=hB
 have hn':m<ops.length:=by simpa using hn
 have htl:(ops.take m).length=m:=by simp;omega
 have hdl:(ops.drop m).length=ops.toArray.size-m:=by simp
 have inv0:HeadInv .any ops.toArray m (Array.replicate ops.toArray.size false) :=
  ⟨by simp,fun j oj _ hl=>(by rw [getD_replicate_false] at hl;cases hl),fun t _ ht=>getD_in (by simpa using ht) (getD_replicate_false _ _)⟩
 have H:=wpAnyL_lex (md:=.any) (g:=ops.toArray.size-m) hsel hs hc hn (ops.take m) 0 _ a (fun j hj=>by
  have hj':j<m:=by rw [htl] at hj;exact hj
  simp [hj']) (by simpa using htl) inv0 (by rw [htl];exact hlex) h
 refine Ox hm hno hd ?_
 have:=wpAny_of_head (Q':=Q) (g:=ops.toArray.size-m) (fun listed a' hL=>by
  have:=wpAny_of_seq (md:=.any) (Q':=Q) (ops.drop m) m listed a' { w with drawn:=w.drawn+1 } (fun j=>by simp [List.getElem?_drop]) (by rw [hdl];exact hL.1) hL.2
  rwa [hdl] at this) _ _ _ H
 rw [htl,show m+(ops.toArray.size-m)=ops.toArray.size by omega] at this
 exact this
def Qs.ag (k:Nat) (l0:List (List S25)) (l1:List S25) (mix:List Int):Nat→Int→Option Bool
 | 0,_=>some true
 | d+1,i=>(QK.f k 0 mix l0 i).bind fun lo=>if wrap64 (100*(YM l1 i).f1)<lo then some false else
   (QF.f k 0 mix l0 i).bind fun hi=>if hi<wrap64 (100*(YM l1 i).f0) then some false else Qs.ag k l0 l1 mix d (i+1)
def Qs.wide (out:List S25) (mix:List Int):List S25:=(out.zip mix).map fun p=>⟨if p.2<p.1.f0 then p.2 else p.1.f0,if p.1.f1<p.2 then p.2 else p.1.f1⟩
def Qs.st (k:Nat) (l0:List (List S25)) (l1:List S25) (out:List S25) (mix:List Int):Option (List S25) :=
 (Qs.ag k l0 l1 mix l1.length 0).map fun b=>if b then Qs.wide (if out=[] then mix.map (fun n=>⟨n,n⟩) else out) mix else out
def Qs.all (k:Nat) (l0:List (List S25)) (l1:List S25):List (List Int)→List S25→Option (List S25)
 | [],out=>some out
 | x::xs,out=>(Qs.st k l0 l1 out x).bind fun o=>Qs.all k l0 l1 xs o
def Qs.sg (k:Nat) (n:Int):List (List S25)→Bool→Option Bool
 | [],ok=>some ok
 | x::xs,ok=>if ok then (Qz.f k x n).bind fun b=>Qs.sg k n xs b else Qs.sg k n xs false
def Qs.f (k:Nat) (l0:List (List S25)) (l1:List S25):Option (List S25 × Int) :=
 (Qj.f (l0.length:Int) 1 3).bind fun b0=>(if b0 then Qz.f k l1 (l1.length:Int) else some false).bind fun b1 =>
 (Qs.sg k (l1.length:Int) l0 b1).bind fun ok=>if ok then
  (Qs.all k l0 l1 (Ul (l0.length-1) 100 []) []).map fun out=>if out=[] then ([],4) else (out,0)
 else some ([],91)
def OK (o:List S25) (x:List Int) (j:Nat):List S25:=Qs.wide (o.take j) (x.take j)++o.drop j
theorem qhM (o:List S25) (x:List Int):OK o x 0=o:=by simp [OK,Qs.wide]
theorem qjy {o:List S25} {x:List Int} (h:o.length=x.length):OK o x x.length=Qs.wide o x:=by
 unfold OK
 rw [List.take_length,← h,List.take_length,List.drop_length,List.append_nil]
theorem qdA {o:List S25} {x:List Int} (h:o.length=x.length) {j:Nat} (hj:j≤x.length):(OK o x j).length=x.length:=by
 simp [OK,Qs.wide];omega
theorem qll {o:List S25} {x:List Int} (h:o.length=x.length) {j:Nat} (hj:j<x.length):(OK o x j).getD j z25=o.getD j z25:=by
 have hl:(Qs.wide (o.take j) (x.take j)).length=j:=by simp [Qs.wide];omega
 unfold OK
 rw [List.getD_eq_getElem?_getD,List.getD_eq_getElem?_getD,List.getElem?_append_right (by omega),hl,Nat.sub_self,List.getElem?_drop,Nat.add_zero]
theorem qhL {o:List S25} {x:List Int} (h:o.length=x.length) {j:Nat} (hj:j<x.length) {p:S25} (hp:(OK o x j).getD j z25=p) :
  (OK o x j).set j ⟨if rd x (j:Int)<p.f0 then rd x (j:Int) else p.f0,if p.f1<rd x (j:Int) then rd x (j:Int) else p.f1⟩=OK o x (j+1):=by
 rw [qll h hj] at hp
 have hjo:j<o.length:=by omega
 have hl:(Qs.wide (o.take j) (x.take j)).length=j:=by simp [Qs.wide];omega
 have e1:o[j]=p:=by rw [← hp];simp [List.getD_eq_getElem?_getD,List.getElem?_eq_getElem hjo]
 have e2:rd x (j:Int)=x[j]:=by simp [rd,List.getD_eq_getElem?_getD,List.getElem?_eq_getElem hj]
 unfold OK
 rw [List.set_append_right _ _ (by omega),hl,Nat.sub_self,List.drop_eq_getElem_cons hjo,List.set_cons_zero,List.take_succ_eq_append_getElem hjo,List.take_succ_eq_append_getElem hj,e2]
 unfold Qs.wide
 rw [List.zip_append (by simp;omega),List.map_append,List.append_assoc]
 simp [e1]
theorem Qs.ag_mono (l0:List (List S25)) (l1:List S25) (mix:List Int) (k:Nat):∀ (d:Nat) (i:Int),LeO (Qs.ag k l0 l1 mix d i) (Qs.ag (k+1) l0 l1 mix d i)
 | 0,_=>LeO.refl _
 | d+1,i=>LeO.bind (QK.mono _ _ _ _ _) (fun _=>LeO.ite (LeO.refl _) (LeO.bind (QF.mono _ _ _ _ _) (fun _=>LeO.ite (LeO.refl _) (Qs.ag_mono l0 l1 mix k d (i+1)))))
theorem Qs.all_mono (l0:List (List S25)) (l1:List S25) (k:Nat):∀ (xs:List (List Int)) (o:List S25),LeO (Qs.all k l0 l1 xs o) (Qs.all (k+1) l0 l1 xs o)
 | [],_=>LeO.refl _
 | x::xs,o=>LeO.bind (LeO.map _ (Qs.ag_mono l0 l1 x k _ _)) (fun o2=>Qs.all_mono l0 l1 k xs o2)
theorem Qs.sg_mono (n:Int) (k:Nat):∀ (xs:List (List S25)) (b:Bool),LeO (Qs.sg k n xs b) (Qs.sg (k+1) n xs b)
 | [],_=>LeO.refl _
 | x::xs,b=>LeO.ite (LeO.bind (Qz.mono _ _ _) (fun b2=>Qs.sg_mono n k xs b2)) (Qs.sg_mono n k xs false)
structure Kx (w:World) (A0:Option Addr) (c0 n0:Nat) (A1:Option Addr) (c1 n1:Nat) (W:World):Prop where
 b2:W.heap[w.heap.size]? = some (.cells #[.slice A0 n0 c0] 31 (0,0))
 b3:W.heap[w.heap.size+1]? = some (.cells #[.slice A1 n1 c1] 32 (0,0))
 below:Below w.heap.size w W
theorem Kx.keep {w:World} {A0 A1:Option Addr} {c0 n0 c1 n1:Nat} {W W1:World} (h:Kx w A0 c0 n0 A1 c1 n1 W) (hb:Below W.heap.size W W1):Kx w A0 c0 n0 A1 c1 n1 W1 :=
 ⟨Qe h.b2 hb,Qe h.b3 hb,h.below.trans (hb.mono h.below.size)⟩
theorem Kx.drew {w:World} {A0 A1:Option Addr} {c0 n0 c1 n1:Nat} {W:World} (h:Kx w A0 c0 n0 A1 c1 n1 W) (m:Nat):Kx w A0 c0 n0 A1 c1 n1 (W.drewN m) :=
 ⟨h.b2,h.b3,Q1 h.below m⟩
theorem qiH {k:Nat} {n:Int}:∀ {l:List (List S25)} {b:Bool},Qs.sg k n l b=some true→b=true
 | [],b,h=>by simpa [Qs.sg] using h
 | x::l,true,_=>rfl
 | x::l,false,h=>by
  rw [Qs.sg,if_neg (by decide)] at h
  exact qiH h
theorem qgw {a b c:Int} (h:Qj.f a b c=some true):b≤a∧a≤c:=by
 unfold Qj.f at h
 by_cases h1:b≤a
 ·
  rw [if_pos h1] at h
  exact ⟨h1,by simpa using h⟩
 ·
  rw [if_neg h1] at h
  simp at h
theorem qet {n:Nat} {P:Program} {g:Operand} {p q:Tmp} {assign body:Code} {Q:Exit→Act→World→Prop} {a:Act} {w:World}
  {gf:Nat} {lb:Array Value} (hg:a.eval g = .func (.func gf) #[] lb) (eg:∀ args w,(callFunc gf args).run P w = .ok (.enter gf args) w)
  {B:Nat} {xs:List (List Int)} {w0:World} (hseq:qaI (n-1) P gf lb B xs w0) (hb0:Below w0.heap.size w0 w)
  (I:List (List Int)→World→Prop) (hI:OwnFrom w.heap.size I) (hI0:∀ W1 W2 row,I [] W1→W1.grownBy W2 row→(∀ r,row=some r→w.heap.size≤r)→I [] W2) (h0:I [] w)
  (hassign:∀ (l:Nat) (v:Value) (W:World) (K:Act→World→Prop),K { tmps:=(a.tmps.setIfInBounds p v).setIfInBounds q v,defers:=[] } W →
   assign.wpIn (Fence.wide.inRound l) (n-1-1) P (Exit.then K (fun _ _ _=>False)) { tmps:=a.tmps.setIfInBounds p v,defers:=[] } W)
  (hbody:∀ (l:Nat) (pre:List (List Int)) (v:Value) (x:List Int) (W:World),I pre W→pre++[x] <+: xs→Kd.R (Kd.int .i64) 3 W B (fun _=>True) v x→body.wpIn (Fence.wide.inRound l) (n-1-1) P (qgc B w.heap.size I (pre++[x]) W) { tmps:=(a.tmps.setIfInBounds p v).setIfInBounds q v,defers:=[] } W)
  (hdone:∀ (D:Nat) (W:World),w.heap.size≤D→I xs W→W.heap[D]? = some (.deferred (some []))→Q .normal { a with defers:={ target:=.collected D,args:=#[] }::a.defers } W) :
  (Code.rangeFunc g #[p] assign body).wpIn Fence.wide n P Q a w :=
 qcQ hg eg hseq hb0 I hI hI0 h0 (fun v => { tmps:=(a.tmps.setIfInBounds p v).setIfInBounds q v,defers:=[] }) (fun l v W K hK=>by
  have:=hassign l v W K hK
  simpa using this) hbody hdone
structure ShI (w:World) (k:Nat) (l0:List (List S25)) (l1:List S25) (A0:Option Addr) (c0:Nat) (A1:Option Addr) (c1 lb hb ob B:Nat) (pre:List (List Int)) (W:World):Prop where
 ex:∃ (v:Value) (out:List S25),Qs.all k l0 l1 pre []=some out∧W.heap[ob]? = some (.cells #[v] 32 (0,0))∧Kd.R k25 25 W B (fun _=>True) v out∧(v = .slice none 0 0↔out=[])
 bx:Kx w A0 c0 l0.length A1 c1 l1.length W
 lo:W.heap[lb]? = some (.cells #[.func (.func 68) #[] #[]] 104 (0,0))
 hi:W.heap[hb]? = some (.cells #[.func (.func 69) #[] #[]] 104 (0,0))
 sz:B≤W.heap.size
theorem KW {W W1:World} {row:Option Nat} (hg:W.grownBy W1 row) (hr:∀ r,row=some r → ∃ o:Obj,W.heap[r]? = some o∧o.isCells=false) {g t:Nat} {cs:Array Value} {x:Nat × Nat} (h:W.heap[g]? = some (.cells cs t x)):W1.heap[g]? = some (.cells cs t x) :=
 (hg.block g (Array.getElem?_eq_some_iff.1 h).1 (fun e=>by obtain ⟨o,ho,hc⟩:=hr g e.symm;rw [h] at ho;cases ho;cases hc)).trans h
theorem ShI.step {w:World} {k:Nat} {l0:List (List S25)} {l1:List S25} {A0 A1:Option Addr} {c0 c1 lb hb ob B:Nat} {pre:List (List Int)} {W W1:World} {row:Option Nat} (h:ShI w k l0 l1 A0 c0 A1 c1 lb hb ob B pre W)
  (hg:W.grownBy W1 row) (hr:∀ r,row=some r→w.heap.size≤r ∧ ∃ o:Obj,W.heap[r]? = some o∧o.isCells=false):ShI w k l0 l1 A0 c0 A1 c1 lb hb ob B pre W1:=by
 have hr2:∀ r,row=some r → ∃ o:Obj,W.heap[r]? = some o∧o.isCells=false:=fun r e=>(hr r e).2
 obtain ⟨v,out,h1,h2,h3,h4⟩:=h.ex
 refine ⟨⟨v,out,h1,KW hg hr2 h2,?_,h4⟩,⟨KW hg hr2 h.bx.b2,KW hg hr2 h.bx.b3,h.bx.below.grown hg h.bx.below.size (fun r e=>(hr r e).1)⟩,KW hg hr2 h.lo,KW hg hr2 h.hi,Nat.le_trans h.sz hg.size⟩
 refine Kd.R_mono (Kd.R_move (Kd.R_bound h3) (fun b hb => ?_)) (fun _ _=>trivial)
 obtain ⟨_,_,_,q,_,cs,hc⟩:=hb
 rw [hc]
 exact KW hg hr2 hc
theorem _root_.Go.Proofs.YtmhomdohhihlcaaW.PrintWords.Kd.R_types2 {α:Type} {d:Kd α} {e:Nat} {w:World} {base:Nat} {ok:Nat→Prop} {v:Value} {xs:List α} (h:d.R e w base ok v xs) {g:Nat} {x:Option (List Deferred)} (hb:w.heap[g]? = some (.deferred x)):d.R e w base (fun k=>ok k∧k≠g) v xs :=
 Kd.R_mono (Kd.R_bound h) (fun k hk=>⟨hk.1,by
  obtain ⟨_,_,_,q,hq,cells',hc⟩:=hk
  rintro rfl
  rw [hc] at hb
  cases hb⟩)
theorem US {k:Nat} {l0:List (List S25)} {l1:List S25}:∀ (a b:List (List Int)) (o:List S25),Qs.all k l0 l1 (a++b) o=(Qs.all k l0 l1 a o).bind fun o2=>Qs.all k l0 l1 b o2
 | [],b,o=>rfl
 | x::a,b,o=>by
  simp only [List.cons_append,Qs.all,Option.bind_assoc]
  congr 1
  funext o2
  exact US a b o2
theorem qlm (out:List S25) (mix:List Int):(Qs.wide out mix).length=min out.length mix.length:=by simp [Qs.wide]
theorem qia {k:Nat} {l0:List (List S25)} {l1:List S25} {R:Nat}:∀ (a:List (List Int)) (o r:List S25),(∀ x∈a,x.length=R)→(o=[]∨o.length=R)→Qs.all k l0 l1 a o=some r→r=[]∨r.length=R
 | [],o,r,_,ho,h=>by
  injection h with h
  rw [← h]
  exact ho
 | x::a,o,r,ha,ho,h=>by
  obtain ⟨o2,h1,h2⟩:=Option.bind_eq_some_iff.1 h
  refine qia a o2 r (fun y hy=>ha y (List.mem_cons_of_mem _ hy)) ?_ h2
  obtain ⟨b,_,h3⟩:=Option.map_eq_some_iff.1 h1
  have hx:=ha x List.mem_cons_self
  cases b with
  | false=>rw [← h3];exact ho
  | true =>
   rw [← h3,if_pos rfl,qlm]
   right
   by_cases hz:o=[]
   ·
    rw [if_pos hz,List.length_map];omega
   ·
    rw [if_neg hz];have:=ho.resolve_left hz;omega
theorem qdn:∀ (m:Nat) (left:Int) (b x:List Int),x∈Ul m left b→x.length=b.length+m+1
 | 0,left,b,x,h=>by
  rw [Ul,List.mem_singleton] at h
  simp [h]
 | m+1,left,b,x,h=>by
  rw [Ul] at h
  obtain ⟨n,_,h⟩:=List.mem_flatMap.1 h
  have:=qdn m _ _ x h
  simp at this
  omega
theorem Kt {Bl B:Nat} {W W1:World} (hb:Below W.heap.size W W1):KeepsFrom Bl W W1∧Zi B W W1 :=
 ⟨⟨hb.size,fun k o _ hk _=>(hb.block k (Array.getElem?_eq_some_iff.1 hk).1).trans hk⟩,⟨hb.size,fun b cs t _ _ hk=>(hb.block b (Array.getElem?_eq_some_iff.1 hk).1).trans hk⟩⟩
theorem ShI.same {w:World} {k:Nat} {l0:List (List S25)} {l1:List S25} {A0 A1:Option Addr} {c0 c1 lb hb ob B:Nat} {pre:List (List Int)} {x:List Int} {W W1:World} (h:ShI w k l0 l1 A0 c0 A1 c1 lb hb ob B pre W)
  (hbl:Below W.heap.size W W1) (hx:∀ out,Qs.all k l0 l1 pre []=some out→Qs.all k l0 l1 (pre++[x]) []=some out):ShI w k l0 l1 A0 c0 A1 c1 lb hb ob B (pre++[x]) W1:=by
 obtain ⟨v,out,h1,h2,h3,h4⟩:=h.ex
 exact ⟨⟨v,out,hx out h1,Qe h2 hbl,Kd.R_below h3 hbl,h4⟩,h.bx.keep hbl,Qe h.lo hbl,Qe h.hi hbl,Nat.le_trans h.sz hbl.size⟩
structure ShO (w:World) (A0:Option Addr) (c0 n0:Nat) (A1:Option Addr) (c1 n1 lb hb ob B:Nat) (Ax:Option Addr) (x:List Int) (W z:World) (o:List S25):Prop where
 kf:KeepsFrom (B+1) W z
 kr:Zi B W z
 bx:Kx w A0 c0 n0 A1 c1 n1 z
 lo:z.heap[lb]? = some (.cells #[.func (.func 68) #[] #[]] 104 (0,0))
 hi:z.heap[hb]? = some (.cells #[.func (.func 69) #[] #[]] 104 (0,0))
 ex:∃ v,z.heap[ob]? = some (.cells #[v] 32 (0,0))∧Kd.R k25 25 z B (fun _=>True) v o∧(v = .slice none 0 0↔o=[])
 cx:Kd.C (Kd.int .i64) z Ax x.length x
 sz:B≤z.heap.size
theorem Jy {W W1:World} {B:Nat} {v:Value} {o:List S25} (hr:Kd.R k25 25 W B (fun _=>True) v o) (hg:W.grownBy W1 v.ownBlock) {g t:Nat} {cs:Array Value} (ht:t≠25) (h:W.heap[g]? = some (.cells cs t (0,0))):W1.heap[g]? = some (.cells cs t (0,0)) :=
 (hg.block g (Array.getElem?_eq_some_iff.1 h).1 (fun e=>by
  obtain ⟨cells,hc⟩:=KX hr.2.choose_spec.1 g e.symm
  rw [h] at hc
  injection hc with hc
  injection hc with _ hc
  exact ht hc)).trans h
theorem ShO.app {w:World} {A0 A1 Ax:Option Addr} {c0 n0 c1 n1 lb:Nat} {x:List Int} {W z z3:World} {o o2:List S25} {v v3:Value} (h:ShO w A0 c0 n0 A1 c1 n1 lb (lb+1) (lb+2) (lb+3) Ax x W z o) (hwl:w.heap.size+2≤lb)
  (hb:z.heap[lb+2]? = some (.cells #[v] 32 (0,0))) (hr:Kd.R k25 25 z (lb+3) (fun _=>True) v o) (hg:z.grownBy z3 v.ownBlock) (hr3:Kd.R k25 25 z3 (lb+3) (fun _=>True) v3 o2) (hv:v3 = .slice none 0 0↔o2=[])
  {nx cx:Nat} (hrow:Kd.R (Kd.int .i64) 3 W (lb+3) (fun _=>True) (.slice Ax nx cx) x):ShO w A0 c0 n0 A1 c1 n1 lb (lb+1) (lb+2) (lb+3) Ax x W (z3.setCell ⟨lb+2,0,none⟩ v3) o2:=by
 have hb3:=Jy hr hg (by decide) hb
 have hbk:Below (lb+3) z z3:=(Below.refl _ z).grown hg h.sz (fun k e=>(Kd.R_bound hr).1 k e |>.2.1)
 have hof:∀ (k:Nat) (ob:Obj),ob.isCells=false→z.heap[k]? = some ob→(z3.setCell ⟨lb+2,0,none⟩ v3).heap[k]? = some ob:=fun k ob hob hk=>by
  refine (Below.heap_setCell z3 ⟨lb+2,0,none⟩ v3 k (fun e => ?_)).trans ((hg.block k (Array.getElem?_eq_some_iff.1 hk).1 (fun e => ?_)).trans hk)
  ·
   have e2:k=lb+2:=e
   rw [e2,hb] at hk
   cases hk
   cases hob
  ·
   obtain ⟨cells,hc⟩:=KX hr.2.choose_spec.1 k e.symm
   rw [hk] at hc
   cases hc
   cases hob
 have hsz:(z3.setCell ⟨lb+2,0,none⟩ v3).heap.size=z3.heap.size:=by simp
 have kr':Zi (lb+3) W (z3.setCell ⟨lb+2,0,none⟩ v3):=⟨Nat.le_trans h.kr.size (by rw [hsz];exact hg.size),fun b cs t hb1 ht hk=>(Below.heap_setCell z3 ⟨lb+2,0,none⟩ v3 b (fun e=>by have e2:b=lb+2:=e;omega)).trans (Jy hr hg ht (h.kr.same b cs t hb1 ht hk))⟩
 refine ⟨⟨Nat.le_trans h.kf.size (by rw [hsz];exact hg.size),fun k ob hk1 hk hob=>hof k ob hob (h.kf.same k ob hk1 hk hob)⟩,kr',
  ⟨Qk (Jy hr hg (by decide) h.bx.b2) (p:=⟨lb+2,0,none⟩) (by simp;omega) _,Qk (Jy hr hg (by decide) h.bx.b3) (p:=⟨lb+2,0,none⟩) (by simp;omega) _,Q5 (h.bx.below.trans (hbk.mono (by omega))) (by omega)⟩,
  Qk (Jy hr hg (by decide) h.lo) (p:=⟨lb+2,0,none⟩) (by simp) _,Qk (Jy hr hg (by decide) h.hi) (p:=⟨lb+2,0,none⟩) (by simp) _,
  ⟨v3,Qu hb3 0 _ rfl,Kd.R_mono (Kd.R_far (p:=⟨lb+2,0,none⟩) (Kd.R_types hr3 hb3 (by decide)) (fun _ hk=>hk.2) _) (fun _ _=>trivial),hv⟩,(Kd.R_reads' (qbn hrow kr')).2.2,by rw [hsz];exact Nat.le_trans h.sz hg.size⟩
theorem qng:(Try.prog.info? 25).map (·.size)=some 2∧True:=⟨by
 have h:=qkU
 cases hi:Try.prog.info? 25 with
 | none=>rw [hi] at h;simp at h
 | some i=>rw [hi] at h;simp at h;simp [h.2.1],trivial⟩
theorem ShO.put {w:World} {A0 A1 Ax:Option Addr} {c0 n0 c1 n1 lb:Nat} {x:List Int} {W z z3:World} {o o1 o2:List S25} {go n cap:Nat} (h:ShO w A0 c0 n0 A1 c1 n1 lb (lb+1) (lb+2) (lb+3) Ax x W z o1) (hwl:w.heap.size+2≤lb)
  (hb:z.heap[lb+2]? = some (.cells #[.slice (some ⟨go,0,none⟩) n cap] 32 (0,0))) (hr:Kd.R k25 25 z (lb+3) (fun _=>True) (.slice (some ⟨go,0,none⟩) n cap) o) (hg:z.grownBy z3 (some go)) (hr3:Kd.R k25 25 z3 (lb+3) (fun _=>True) (.slice (some ⟨go,0,none⟩) n cap) o2) (hv:o2≠[])
  {nx cx:Nat} (hrow:Kd.R (Kd.int .i64) 3 W (lb+3) (fun _=>True) (.slice Ax nx cx) x):ShO w A0 c0 n0 A1 c1 n1 lb (lb+1) (lb+2) (lb+3) Ax x W z3 o2:=by
 have hg':z.grownBy z3 (Value.slice (some ⟨go,0,none⟩) n cap).ownBlock:=hg
 have hbk:Below (lb+3) z z3:=(Below.refl _ z).grown hg' h.sz (fun k e=>(Kd.R_bound hr).1 k e |>.2.1)
 have hof:∀ (k:Nat) (ob:Obj),ob.isCells=false→z.heap[k]? = some ob→z3.heap[k]? = some ob:=fun k ob hob hk=>by
  refine (hg'.block k (Array.getElem?_eq_some_iff.1 hk).1 (fun e => ?_)).trans hk
  obtain ⟨cells,hc⟩:=KX hr.2.choose_spec.1 k e.symm
  rw [hk] at hc
  cases hc
  cases hob
 have kr':Zi (lb+3) W z3:=⟨Nat.le_trans h.kr.size hg.size,fun b cs t hb1 ht hk=>Jy hr hg' ht (h.kr.same b cs t hb1 ht hk)⟩
 refine ⟨⟨Nat.le_trans h.kf.size hg.size,fun k ob hk1 hk hob=>hof k ob hob (h.kf.same k ob hk1 hk hob)⟩,kr',
  ⟨Jy hr hg' (by decide) h.bx.b2,Jy hr hg' (by decide) h.bx.b3,?_⟩,Jy hr hg' (by decide) h.lo,Jy hr hg' (by decide) h.hi,
  ⟨_,Jy hr hg' (by decide) hb,hr3,⟨fun e=>(by cases e),fun e=>absurd e hv⟩⟩,(Kd.R_reads' (qbn hrow kr')).2.2,Nat.le_trans h.sz hg.size⟩
 exact h.bx.below.trans (hbk.mono (by omega))
theorem qji (R:Int) (w:World):Calls Try.prog 70 #[.int .i64 R] w fun e w'=>e = .returned (.func (.func 95) #[] #[.pointer (some ⟨w.heap.size,0,none⟩)])∧w'=w.alloc (.cells #[.int .i64 R] 3):=by
 go_enter Try.func70,Try.ntmps70
 go_wp2
 go_ret
 exact ⟨rfl,rfl⟩
set_option maxHeartbeats 8000000 in
set_option maxRecDepth 100000 in
theorem Qs.calls (k:Nat) (A0:Option Addr) (c0:Nat) (l0:List (List S25)) (A1:Option Addr) (c1:Nat) (l1:List S25) (r1:List S25) (r2:Int) (w:World) (hr0:Kd.C (Kd.slice 25 k25) w A0 l0.length l0) (hc0:l0.length≤c0) (hr1:Kd.C k25 w A1 l1.length l1) (hc1:l1.length≤c1) (h:Qs.f k l0 l1=some (r1,r2)) :
  Calls Try.prog 22 #[.slice A0 l0.length c0,.slice A1 l1.length c1] w fun e w' => ∃ v0_,e = .returned (.tuple #[v0_,.int .i64 r2])∧Kd.V k25 25 w' w.heap.size (fun k_=>w.heap.size≤k_) v0_ r1∧Below w.heap.size w w':=by
 refine (callsIn_wide (n:=3)).1 ?_
 have hmix:Try.prog.follows .mixedOrders=true:=by kernel_rfl
 unfold Qs.f at h
 obtain ⟨b0,hb0,h⟩:=Option.bind_eq_some_iff.1 h
 obtain ⟨b1,hb1,h⟩:=Option.bind_eq_some_iff.1 h
 obtain ⟨ok,hok,h⟩:=Option.bind_eq_some_iff.1 h
 have HR0:=Q0.mk hr0
 have HC0:=Q0.mk hc0
 have HR1:=Q0.mk hr1
 have HC1:=Q0.mk hc1
 have HH:=Q0.mk h
 have HB0:=Q0.mk hb0
 have HB1:=Q0.mk hb1
 have HOK:=Q0.mk hok
 clear hr0 hc0 hr1 hc1 h hb0 hb1 hok
 refine callsIn_of_wp_marks Try.func22 rfl trivial ?_ rfl
 simp only [Try.ntmps22,List.size_toArray,List.length_cons,List.length_nil,Nat.reduceAdd,Nat.reduceSub,Array.replicate_succ,Array.replicate_zero,List.push_toArray,List.append_toArray,List.nil_append,List.cons_append]
 gi_wp2
 apply qhN
 have HX:=Q0.mk (show Kx w A0 c0 l0.length A1 c1 l1.length ((w.alloc (.cells #[.slice A0 l0.length c0] 31)).alloc (.cells #[.slice A1 l1.length c1] 32)) from
  ⟨(Below.heap_alloc _ _ _ (by simp)).trans (World.alloc_heap_new w _),by have:=World.alloc_heap_new (w.alloc (.cells #[.slice A0 l0.length c0] 31)) (.cells #[.slice A1 l1.length c1] 32);rwa [World.size_alloc] at this,Q3 (Q3 (Below.refl _ _) _) _⟩)
 have HLEN:=Q0.mk (show ok=true→1≤l0.length∧l0.length≤3 from fun e=>by
  have h1:=HOK.out
  rw [e] at h1
  have h2:=qiH h1
  have h3:=HB1.out
  rw [h2] at h3
  have h4:b0=true:=by
   cases b0 with
   | true=>rfl
   | false=>simp at h3
  have h5:=HB0.out
  rw [h4] at h5
  have h6:=qgw h5
  omega)
 gi_upto_region 1 with (fail)
 gi_cut [6] from 19 (fun v6 wc=>v6 = .bool b1∧Q0 (Kx w A0 c0 l0.length A1 c1 l1.length wc))
 case first =>
  cases b0 with
  | false =>
   obtain rfl:b1=false:=by have:=HB1.out;simpa using this.symm
   gi_wp2_with (first|(refine ⟨trivial,(callsIn_wide.2 (Qj.calls _ _ _ false _ HB0.out)).mono ?_⟩;rintro e w' ⟨rfl,⟨nd,rfl⟩⟩)|(refine ⟨trivial,?_⟩))
   gi_meet
   case rel=>exact ⟨rfl,⟨HX.out.drew nd⟩⟩
  | true =>
   have HA1:=Q0.mk (show Qz.f k l1 (l1.length:Int)=some b1 from HB1.out)
   gi_wp2_with (first|(refine ⟨trivial,(callsIn_wide.2 (Qj.calls _ _ _ true _ HB0.out)).mono ?_⟩;rintro e w' ⟨rfl,⟨nd,rfl⟩⟩)|(refine ⟨trivial,(callsIn_wide.2 (Qz.calls k A1 c1 l1 (l1.length:Int) b1 _ ?hx HC1.out HA1.out)).mono ?_⟩;(case hx=>exact Kd.C_below HR1.out (HX.out.drew nd).below);rintro e w' ⟨rfl,hbb⟩))
   gi_meet
   case rel=>exact ⟨rfl,⟨(HX.out.drew nd).keep hbb⟩⟩
 case rest =>
  clear HX HB0 HB1
  obtain ⟨rfl,HX⟩:=hcut
  have hcz2:wc.cell? ⟨w.heap.size,0,none⟩=some (.slice A0 l0.length c0):=(Q8 HX.out.b2 0).trans rfl
  gi_wp2
  gi_loopg [6,30] l0.length (fun d v6 v30 wr => ∃ (b:Bool) (i:Nat),v6 = .bool b∧v30 = .int .i64 (i:Int)∧Q0 (i+d=l0.length)∧Q0 (Qs.sg k (l1.length:Int) (l0.drop i) b=some ok)∧Q0 (Kx w A0 c0 l0.length A1 c1 l1.length wr))
  case atStart=>exact ⟨b1,0,rfl,rfl,⟨by omega⟩,⟨by simpa using HOK.out⟩,HX⟩
  case round =>
   clear hcz2 HX
   obtain ⟨b,i,rfl,rfl,HD,HS,HX⟩:=hrel
   have hmx:l0.length≤9223372036854775807:=HR0.out.2.1
   by_cases hi:i<l0.length
   ·
    obtain ⟨d,rfl⟩:∃ d,gk=d+1:=⟨gk-1,by have:=HD.out;omega⟩;have qpz:wr.cell? ⟨w.heap.size+1,0,none⟩=some (.slice A1 l1.length c1):=(Q8 HX.out.b3 0).trans rfl;obtain ⟨ad,A2,c2,ea,hx,hc2,hr2⟩:=qj9 HR0.out (i:Int) (by omega) (by omega);subst ea;replace hx:=(HX.out.below.cell (World.block_lt_of_cell? w _ hx)).trans hx;rw [Int.toNat_natCast] at hx
    have hdrop:l0.drop i=Jr l0 i::l0.drop (i+1):=by
     rw [List.drop_eq_getElem_cons hi]
     congr 1
     simp [Jr,List.getD_eq_getElem?_getD,List.getElem?_eq_getElem hi]
    have HS2:=Q0.mk (show Qs.sg k (l1.length:Int) (Jr l0 i::l0.drop (i+1)) b=some ok by rw [← hdrop];exact HS.out);have HCA:=Q0.mk hr2;have HC2:=Q0.mk hc2;clear hdrop hr2 hc2
    cases b with
    | false =>
     gi_wp2_with (refine ⟨trivial,?_⟩)
     gi_roundg d
     case measure=>omega
     case rel=>exact ⟨false,i+1,rfl,by simp,⟨by have:=HD.out;omega⟩,⟨by have:=HS2.out;simpa [Qs.sg] using this⟩,HX⟩
    | true =>
     obtain ⟨b3,h3,h4⟩:=Option.bind_eq_some_iff.1 (show (Qz.f k (Jr l0 i) (l1.length:Int)).bind (fun b=>Qs.sg k (l1.length:Int) (l0.drop (i+1)) b)=some ok by have:=HS2.out;simpa [Qs.sg] using this);have HS3:=Q0.mk h3;have HS4:=Q0.mk h4;clear h3 h4
     gi_wp2_with (refine ⟨trivial,(callsIn_wide.2 (Qz.calls k A2 c2 (Jr l0 i) (l1.length:Int) b3 _ ?hx HC2.out HS3.out)).mono ?_⟩;(case hx=>exact Kd.C_below HCA.out HX.out.below);rintro e w' ⟨rfl,hbb⟩)
     gi_roundg d
     case measure=>omega
     case rel=>exact ⟨b3,i+1,rfl,by simp,⟨by have:=HD.out;omega⟩,⟨HS4.out⟩,⟨HX.out.keep hbb⟩⟩
   ·
    have HE:=Q0.mk (show some b=some ok by have:=HS.out;rw [List.drop_eq_nil_of_le (by omega)] at this;exact this);clear HS;obtain rfl:b=ok:=Option.some.inj HE.out;clear HE
    cases b with
    | false =>
     have HF:=HH.out;rw [if_neg (by decide)] at HF
     injection HF with HF
     injection HF with e1 e2
     subst e1 e2
     gi_wp2
     simp only [Exit.noGoto];refine ⟨_,results_tmp2 rfl _ _ _,?_⟩
     exact ⟨_,rfl,Kd.V_nil _ _ _ _ _,HX.out.below⟩
    | true =>
     have HF:=HH.out;rw [if_pos rfl] at HF;have HF:=Q0.mk HF;clear HH
     gi_wp2
     apply wpIn_label
     obtain ⟨lb,hlb⟩:∃ lb,wr.heap.size=lb:=⟨_,rfl⟩;obtain ⟨W0,hW0⟩:∃ W0,((wr.alloc (.cells #[.func (.func 68) #[] #[]] 104)).alloc (.cells #[.func (.func 69) #[] #[]] 104)).alloc (.cells #[.slice none 0 0] 32)=W0:=⟨_,rfl⟩
     have hwlb:w.heap.size≤lb:=by rw [← hlb];exact HX.out.below.size
     have qoI:w.heap.size+2≤lb:=by have:=QL HX.out.b3;omega
     have hs0:W0.heap.size=lb+3:=by rw [← hW0,← hlb];simp
     have hB0:Below wr.heap.size wr W0:=by rw [← hW0];exact Q3 (Q3 (Q3 (Below.refl _ _) _) _) _
     have hX0:=HX.out.keep hB0
     have hlo0:W0.heap[lb]? = some (.cells #[.func (.func 68) #[] #[]] 104 (0,0)):=by
      rw [← hW0,← hlb];exact (Below.heap_alloc _ _ _ (by simp;omega)).trans ((Below.heap_alloc _ _ _ (by simp)).trans (World.alloc_heap_new wr _))
     have hhi0:W0.heap[lb+1]? = some (.cells #[.func (.func 69) #[] #[]] 104 (0,0)):=by
      rw [← hW0,← hlb];refine (Below.heap_alloc _ _ _ (by simp)).trans ?_;have:=World.alloc_heap_new (wr.alloc (.cells #[.func (.func 68) #[] #[]] 104)) (.cells #[.func (.func 69) #[] #[]] 104);rwa [World.size_alloc] at this
     have qs2:W0.heap[lb+2]? = some (.cells #[.slice none 0 0] 32 (0,0)):=by
      rw [← hW0,← hlb];have:=World.alloc_heap_new ((wr.alloc (.cells #[.func (.func 68) #[] #[]] 104)).alloc (.cells #[.func (.func 69) #[] #[]] 104)) (.cells #[.slice none 0 0] 32);rwa [World.size_alloc,World.size_alloc] at this
     rw [hW0,show wr.heap.size+1+1=lb+2 by omega,show wr.heap.size+1=lb+1 by omega,hlb];have HI0:=Q0.mk (show ShI w k l0 l1 A0 c0 A1 c1 lb (lb+1) (lb+2) (lb+3) [] W0 from ⟨⟨_,[],rfl,qs2,Kd.R_nil _ _ _ _ _,by simp⟩,hX0,hlo0,hhi0,by omega⟩);have hcz2:W0.cell? ⟨w.heap.size,0,none⟩=some (.slice A0 l0.length c0):=(Q8 hX0.b2 0).trans rfl;clear hX0 hlo0 hhi0 qs2 hB0 HX hW0
     gi_wp2_with (refine ⟨trivial,(callsIn_wide.2 (qji _ _)).mono ?_⟩;rintro e w' ⟨rfl,rfl⟩)
     obtain ⟨hR1,hR3⟩:=(by simpa using HLEN.out)
     have hrb:(W0.alloc (.cells #[.int .i64 (l0.length:Int)] 3)).heap[lb+3]? = some (.cells #[.int .i64 (l0.length:Int)] 3 (0,0)):=by
      rw [← hs0];exact World.alloc_heap_new W0 _
     have hs1:(W0.alloc (.cells #[.int .i64 (l0.length:Int)] 3)).heap.size=lb+4:=by simp;omega
     refine qet (p:=49) (q:=12) (gf:=95) (lb:=#[.pointer (some ⟨lb+3,0,none⟩)]) (B:=lb+3) (xs:=Ul (l0.length-1) 100 []) rfl (enters_of Try.func95 (by kernel_rfl) rfl)
      (qcX _ l0.length (lb+3) (lb+3) _ hR1 hR3 (Nat.le_refl _) hrb) (Below.refl _ _) (ShI w k l0 l1 A0 c0 A1 c1 lb (lb+1) (lb+2) (lb+3)) ?hI ?hI0 ?h0 ?assign ?body ?done
     case hI=>exact fun pre W1 W2 row h hg hr=>h.step hg (fun r e=>⟨by have:=(hr r e).1;omega,(hr r e).2⟩)
     case hI0 =>
      intro W1 W2 row h hg hr;obtain ⟨v,out,h1,h2,h3,h4⟩:=h.ex;obtain rfl:[]=out:=Option.some.inj h1;obtain rfl:=h4.2 rfl
      have kp:∀ g o,g<lb+4→W1.heap[g]? = some o→W2.heap[g]? = some o:=fun g o hg2 ho=>(hg.block g (Array.getElem?_eq_some_iff.1 ho).1 (fun e=>by have:=hr g e.symm;omega)).trans ho
      exact ⟨⟨_,[],rfl,kp _ _ (by omega) h2,Kd.R_nil _ _ _ _ _,by simp⟩,⟨kp _ _ (by omega) h.bx.b2,kp _ _ (by omega) h.bx.b3,h.bx.below.grown hg h.bx.below.size (fun r e=>by have:=hr r e;omega)⟩,kp _ _ (by omega) h.lo,kp _ _ (by omega) h.hi,Nat.le_trans h.sz hg.size⟩
     case h0=>exact HI0.out.step (World.grownBy_alloc _ _ none) (fun r e=>by cases e)
     case assign =>
      intro l v W K hK
      gi_wp2
      exact hK
     case body =>
      intro l pre v x W hI hpre hrow
      have hlen:∀ y∈pre++[x],y.length=l0.length:=fun y hy=>by
       have:=qdn _ _ _ _ (hpre.subset hy)
       simp at this
       omega
      have hxl:x.length=l0.length:=hlen x (by simp);obtain ⟨Ax,cx,rfl,hcx,hCx⟩:=Kd.R_reads hrow;obtain ⟨vo,out,h1,h2,h3,h4⟩:=hI.ex;have hout:out=[]∨out.length=l0.length:=qia pre [] out (fun y hy=>hlen y (by simp [hy])) (.inl rfl) h1
      obtain ⟨bb,hag,hst⟩:∃ bb,Qs.ag k l0 l1 x l1.length 0=some bb∧Qs.all k l0 l1 (pre++[x]) []=some (if bb then Qs.wide (if out=[] then x.map (fun n=>⟨n,n⟩) else out) x else out):=by
       obtain ⟨ys,hys⟩:=hpre;have hF:=HF.out;rw [← hys,US,US,h1] at hF
       cases hs:Qs.st k l0 l1 out x with
       | none=>simp [Qs.all,hs] at hF
       | some o =>
        obtain ⟨bb,hb1,hb2⟩:=Option.map_eq_some_iff.1 hs;refine ⟨bb,hb1,?_⟩;rw [US,h1];simp only [Option.bind_some,Qs.all,hs,← hb2]
      have HI:=Q0.mk hI;have HAG:=Q0.mk hag;have HST:=Q0.mk hst;have HOUT:=Q0.mk hout;have HROW:=Q0.mk hrow;have HCX:=Q0.mk hCx;have HN:=Q0.mk h4;have HR3:=Q0.mk h3;have HBO:=Q0.mk h2;have HALL:=Q0.mk h1
      have hmxx:x.length≤3:=by omega
      have HXL:=Q0.mk hxl;clear hI hag hst hout hrow hCx h4 h3 h2 h1 HF hpre hlen hxl;simp only [List.setIfInBounds_toArray,List.set_cons_succ,List.set_cons_zero];have qpz:W.cell? ⟨w.heap.size+1,0,none⟩=some (.slice A1 l1.length c1):=(Q8 HI.out.bx.b3 0).trans rfl;have qz4:l1.length≤9223372036854775807:=HR1.out.2.1
      gi_wp2
      gi_loopg [52] l1.length (fun d v52 wr => ∃ (i:Nat),v52 = .int .i64 (i:Int)∧Q0 (i+d=l1.length)∧Q0 (Qs.ag k l0 l1 x d (i:Int)=some bb)∧Q0 (Below W.heap.size W wr))
      case atStart=>exact ⟨0,rfl,⟨by omega⟩,HAG,⟨Below.refl _ _⟩⟩
      case round =>
       obtain ⟨i,rfl,HD,HA,HB⟩:=hrel
       by_cases hi:i<l1.length
       ·
        obtain ⟨d,rfl⟩:∃ d,gk=d+1:=⟨gk-1,by have:=HD.out;omega⟩;obtain ⟨ad,ea,hx0,hx1⟩:=UT HR1.out (i:Int) (by omega) (by omega);subst ea;replace hx0:=(HI.out.bx.below.cell (World.block_lt_of_cell? w _ hx0)).trans hx0;replace hx1:=(HI.out.bx.below.cell (World.block_lt_of_cell? w _ hx1)).trans hx1;replace hx0:=(HB.out.cell (World.block_lt_of_cell? W _ hx0)).trans hx0;replace hx1:=(HB.out.cell (World.block_lt_of_cell? W _ hx1)).trans hx1;rw [Int.toNat_natCast] at hx0 hx1;have qbf:=Try.underlying25
        gi_wp2
        have hww:w.heap.size≤W.heap.size:=HI.out.bx.below.size;have hlbW:lb+3≤W.heap.size:=HI.out.sz;have hWr:W.heap.size≤wr.heap.size:=HB.out.size;obtain ⟨We,hWe⟩:∃ We,wr.alloc (.cells #[.int .i64 (YM l1 (i:Int)).f0,.int .i64 (YM l1 (i:Int)).f1] 25)=We:=⟨_,rfl⟩
        have hbe:Below wr.heap.size wr We:=by rw [← hWe];exact Q3 (Below.refl _ _) _
        have h14:We.heap[wr.heap.size]? = some (.cells #[.int .i64 (YM l1 (i:Int)).f0,.int .i64 (YM l1 (i:Int)).f1] 25 (0,0)):=by rw [← hWe];exact World.alloc_heap_new wr _
        have hse:We.heap.size=wr.heap.size+1:=by rw [← hWe];simp
        have HBe:=Q0.mk (show Below W.heap.size W We from HB.out.trans (hbe.mono hWr))
        have hSb:∀ z:World,Below We.heap.size We z→(fun z=>z.cell? ⟨lb,0,none⟩=some (.func (.func 68) #[] #[])∧z.cell? ⟨lb+1,0,none⟩=some (.func (.func 69) #[] #[])∧z.cell? ⟨w.heap.size,0,none⟩=some (.slice A0 l0.length c0)∧z.cell? ⟨wr.heap.size,0,none⟩=some (.int .i64 (YM l1 (i:Int)).f0)∧z.cell? ⟨wr.heap.size,1,none⟩=some (.int .i64 (YM l1 (i:Int)).f1)) z:=fun z hz=>by
         have hbz:Below W.heap.size W z:=HBe.out.trans (hz.mono (by omega))
         exact ⟨(Q8 (Qe HI.out.lo hbz) 0).trans rfl,(Q8 (Qe HI.out.hi hbz) 0).trans rfl,(Q8 (Qe HI.out.bx.b2 hbz) 0).trans rfl,(Q8 (Qe h14 hz) 0).trans rfl,(Q8 (Qe h14 hz) 1).trans rfl⟩
        have hS:(fun z=>z.cell? ⟨lb,0,none⟩=some (.func (.func 68) #[] #[])∧z.cell? ⟨lb+1,0,none⟩=some (.func (.func 69) #[] #[])∧z.cell? ⟨w.heap.size,0,none⟩=some (.slice A0 l0.length c0)∧z.cell? ⟨wr.heap.size,0,none⟩=some (.int .i64 (YM l1 (i:Int)).f0)∧z.cell? ⟨wr.heap.size,1,none⟩=some (.int .i64 (YM l1 (i:Int)).f1)) We.drew:=hSb We.drew (Yr (Below.refl _ _));rw [hWe];clear hx0 hx1 qpz
        obtain ⟨lo,hlo1,hlo2⟩:=Option.bind_eq_some_iff.1 (show (QK.f k 0 x l0 (i:Int)).bind (fun lo=>if wrap64 (100*(YM l1 (i:Int)).f1)<lo then some false else
   (QF.f k 0 x l0 (i:Int)).bind fun hi=>if hi<wrap64 (100*(YM l1 (i:Int)).f0) then some false else Qs.ag k l0 l1 x d ((i:Int)+1))=some bb from HA.out)
        have HLO:=Q0.mk hlo1;clear hlo1 HA;obtain ⟨qh,hqh⟩:∃ q,IntKind.i64.wrap (100*(YM l1 (i:Int)).f1)=q:=⟨_,rfl⟩;obtain ⟨ql,hql⟩:∃ q,IntKind.i64.wrap (100*(YM l1 (i:Int)).f0)=q:=⟨_,rfl⟩;rw [← Yj,← Yj,hqh,hql] at hlo2
        by_cases cc:qh<lo
        ·
         obtain rfl:false=bb:=by rw [if_pos cc] at hlo2;exact Option.some.inj hlo2
         clear hlo2;have ccb:decide (qh<lo)=true:=decide_eq_true cc;clear cc;refine Ox hmix ?hno1 (by kernel_rfl) ?_
         case hno1=>rintro ⟨a,w,h⟩;exact h
         refine wpAny_of_held (S:=(fun z=>z.cell? ⟨lb,0,none⟩=some (.func (.func 68) #[] #[])∧z.cell? ⟨lb+1,0,none⟩=some (.func (.func 69) #[] #[])∧z.cell? ⟨w.heap.size,0,none⟩=some (.slice A0 l0.length c0)∧z.cell? ⟨wr.heap.size,0,none⟩=some (.int .i64 (YM l1 (i:Int)).f0)∧z.cell? ⟨wr.heap.size,1,none⟩=some (.int .i64 (YM l1 (i:Int)).f1))) _ _ _ _ ?_;change wpAnyH _ _ _ _ _ _ _ _ (World.drew _);refine wpAnyH_take (i:=0) (oi:={ dst:=some 57,op:=_,type:=_,pos:=_,after:=_,guard:=_ }) (v:=?vx2) rfl (by kernel_rfl) (by kernel_rfl) (by kernel_rfl) (fun _ _ _ h=>h) (Or.inl ⟨by rfl,?hyx2⟩) hS ?restx2
         case hyx2 =>
          intro z hz;obtain ⟨z1,z2,z3,z4,z5⟩:=hz
          go_simp
          try (with_reducible rfl)
         simp only [Act.put,List.setIfInBounds_toArray,List.set_cons_zero,List.set_cons_succ];refine wpAnyH_take (i:=1) (oi:={ dst:=some 58,op:=_,type:=_,pos:=_,after:=_,guard:=_ }) (v:=?vx3) rfl (by kernel_rfl) (by kernel_rfl) (by kernel_rfl) (fun _ _ _ h=>h) (Or.inl ⟨by rfl,?hyx3⟩) hS ?restx3
         case hyx3 =>
          intro z hz;obtain ⟨z1,z2,z3,z4,z5⟩:=hz
          go_simp
          try (with_reducible rfl)
         simp only [Act.put,List.setIfInBounds_toArray,List.set_cons_zero,List.set_cons_succ];refine wpAnyH_take (i:=2) (oi:={ dst:=some 59,op:=_,type:=_,pos:=_,after:=_,guard:=_ }) (v:=?vx4) rfl (by kernel_rfl) (by kernel_rfl) (by kernel_rfl) (fun _ _ _ h=>h) (Or.inl ⟨by rfl,?hyx4⟩) hS ?restx4
         case hyx4 =>
          intro z hz;obtain ⟨z1,z2,z3,z4,z5⟩:=hz
          go_simp
          try (with_reducible rfl)
         simp only [Act.put,List.setIfInBounds_toArray,List.set_cons_zero,List.set_cons_succ];refine wpAnyH_take (i:=3) (oi:={ dst:=some 60,op:=_,type:=_,pos:=_,after:=_,guard:=_ }) (v:=?vx5) rfl (by kernel_rfl) (by kernel_rfl) (by kernel_rfl) (fun _ _ _ h=>h) (Or.inl ⟨by rfl,?hyx5⟩) hS ?restx5
         case hyx5 =>
          intro z hz;obtain ⟨z1,z2,z3,z4,z5⟩:=hz
          go_simp
          try (with_reducible rfl)
         simp only [Act.put,List.setIfInBounds_toArray,List.set_cons_zero,List.set_cons_succ];refine wpAnyH_take (i:=5) (oi:={ dst:=some 62,op:=_,type:=_,pos:=_,after:=_,guard:=_ }) (v:=?vx6) rfl (by kernel_rfl) (by kernel_rfl) (by kernel_rfl) (fun _ _ _ h=>h) (Or.inl ⟨by rfl,?hyx6⟩) hS ?restx6
         case hyx6 =>
          intro z hz;obtain ⟨z1,z2,z3,z4,z5⟩:=hz
          go_simp
          try (with_reducible rfl)
         simp only [Act.put,List.setIfInBounds_toArray,List.set_cons_zero,List.set_cons_succ];refine wpAnyH_take (i:=6) (oi:={ dst:=some 63,op:=_,type:=_,pos:=_,after:=_,guard:=_ }) (v:=?vx7) rfl (by kernel_rfl) (by kernel_rfl) (by kernel_rfl) (fun _ _ _ h=>h) (Or.inl ⟨by rfl,?hyx7⟩) hS ?restx7
         case hyx7 =>
          intro z hz;obtain ⟨z1,z2,z3,z4,z5⟩:=hz
          go_simp
          try (with_reducible rfl)
         simp only [Act.put,List.setIfInBounds_toArray,List.set_cons_zero,List.set_cons_succ];refine wpAnyH_take (i:=7) (oi:={ dst:=some 64,op:=_,type:=_,pos:=_,after:=_,guard:=_ }) (v:=?vx8) rfl (by kernel_rfl) (by kernel_rfl) (by kernel_rfl) (fun _ _ _ h=>h) (Or.inl ⟨by rfl,?hyx8⟩) hS ?restx8
         case hyx8 =>
          intro z hz;obtain ⟨z1,z2,z3,z4,z5⟩:=hz
          go_simp
          try (with_reducible rfl)
         simp only [Act.put,List.setIfInBounds_toArray,List.set_cons_zero,List.set_cons_succ];refine wpAnyH_ready (rs:=[4]) (by kernel_rfl) (by simp) ?_;refine AllReadyH.cons (o:={ dst:=some 61,op:=.call { callee:=.value (.func 71),args:=#[.tmp 57,.tmp 58,.tmp 59,.tmp 60],argTypes:=#[104,37,31,3] },type:=3,pos:=_,after:=_,guard:=none }) rfl (fun K hK => ?_) AllReadyH.nil;refine XL Try.func71 (by kernel_rfl) rfl #[.agg #[.func (.func 68) #[] #[]],.slice Ax x.length cx,.slice A0 l0.length c0,.int .i64 (i:Int)] (by rfl) rfl rfl (by (try simp only [List.map_toArray,List.map_cons,List.map_nil]);first|done|rfl) ?_;refine (QK.calls k 0 Ax cx x A0 c0 l0 (i:Int) lo _ ?q1w18 hcx ?q2w18 HC0.out HLO.out).mono ?_
         case q1w18=>exact Kd.C_below HCX.out (Yr HBe.out)
         case q2w18=>exact Kd.C_below HR0.out (HI.out.bx.below.trans ((Yr HBe.out).mono hww))
         rintro e w1 ⟨rfl,qcV⟩;refine ⟨_,rfl,?_⟩;have qaJ:=Q0.mk (show Below W.heap.size W w1 from (Yr HBe.out).trans (qcV.mono (Yr HBe.out).size));have hS1:=(show _ from hSb w1 ((show Below We.heap.size We w1 from (Yr (Below.refl We.heap.size We)).trans (qcV.mono ((Yr (Below.refl We.heap.size We)).size)))));clear hS;refine hK.out _ _ hS1 (fun hS => ?_);simp only [Act.put,List.setIfInBounds_toArray,List.set_cons_zero,List.set_cons_succ];refine wpAnyH_take (i:=8) (oi:={ dst:=some 65,op:=_,type:=_,pos:=_,after:=_,guard:=_ }) (v:=?vx9) rfl (by kernel_rfl) (by kernel_rfl) (by kernel_rfl) (fun _ _ _ h=>h) (Or.inl ⟨by rfl,?hyx9⟩) hS ?restx9
         case hyx9 =>
          intro z hz;obtain ⟨z1,z2,z3,z4,z5⟩:=hz
          go_simp
          try (with_reducible rfl)
         simp only [Act.put,List.setIfInBounds_toArray,List.set_cons_zero,List.set_cons_succ];refine wpAnyH_take (i:=9) (oi:={ dst:=some 66,op:=_,type:=_,pos:=_,after:=_,guard:=_ }) (v:=?vx10) rfl (by kernel_rfl) (by kernel_rfl) (by kernel_rfl) (fun _ _ _ h=>h) (Or.inl ⟨by rfl,?hyx10⟩) hS ?restx10
         case hyx10 =>
          intro z hz;obtain ⟨z1,z2,z3,z4,z5⟩:=hz
          go_simp
          try (with_reducible rfl)
         simp only [Act.put,List.setIfInBounds_toArray,List.set_cons_zero,List.set_cons_succ];refine wpAnyH_take (i:=10) (oi:={ dst:=some 67,op:=_,type:=_,pos:=_,after:=_,guard:=_ }) (v:=undef) rfl (by kernel_rfl) (by kernel_rfl) (by kernel_rfl) (fun _ _ _ h=>h) (Or.inr ⟨by rfl,rfl⟩) hS ?_;simp only [Act.put,List.setIfInBounds_toArray,List.set_cons_zero,List.set_cons_succ];refine wpAnyH_take (i:=11) (oi:={ dst:=some 68,op:=_,type:=_,pos:=_,after:=_,guard:=_ }) (v:=undef) rfl (by kernel_rfl) (by kernel_rfl) (by kernel_rfl) (fun _ _ _ h=>h) (Or.inr ⟨by rfl,rfl⟩) hS ?_;simp only [Act.put,List.setIfInBounds_toArray,List.set_cons_zero,List.set_cons_succ];refine wpAnyH_take (i:=12) (oi:={ dst:=some 69,op:=_,type:=_,pos:=_,after:=_,guard:=_ }) (v:=undef) rfl (by kernel_rfl) (by kernel_rfl) (by kernel_rfl) (fun _ _ _ h=>h) (Or.inr ⟨by rfl,rfl⟩) hS ?_;simp only [Act.put,List.setIfInBounds_toArray,List.set_cons_zero,List.set_cons_succ];refine wpAnyH_take (i:=13) (oi:={ dst:=some 70,op:=_,type:=_,pos:=_,after:=_,guard:=_ }) (v:=undef) rfl (by kernel_rfl) (by kernel_rfl) (by kernel_rfl) (fun _ _ _ h=>h) (Or.inr ⟨by rfl,rfl⟩) hS ?_;simp only [Act.put,List.setIfInBounds_toArray,List.set_cons_zero,List.set_cons_succ];refine wpAnyH_take (i:=14) (oi:={ dst:=some 71,op:=_,type:=_,pos:=_,after:=_,guard:=_ }) (v:=undef) rfl (by kernel_rfl) (by kernel_rfl) (by kernel_rfl) (fun _ _ _ h=>h) (Or.inr ⟨by rfl,rfl⟩) hS ?_;simp only [Act.put,List.setIfInBounds_toArray,List.set_cons_zero,List.set_cons_succ];refine wpAnyH_take (i:=15) (oi:={ dst:=some 72,op:=_,type:=_,pos:=_,after:=_,guard:=_ }) (v:=undef) rfl (by kernel_rfl) (by kernel_rfl) (by kernel_rfl) (fun _ _ _ h=>h) (Or.inr ⟨by rfl,rfl⟩) hS ?_;simp only [Act.put,List.setIfInBounds_toArray,List.set_cons_zero,List.set_cons_succ];refine wpAnyH_take (i:=16) (oi:={ dst:=some 73,op:=_,type:=_,pos:=_,after:=_,guard:=_ }) (v:=undef) rfl (by kernel_rfl) (by kernel_rfl) (by kernel_rfl) (fun _ _ _ h=>h) (Or.inr ⟨by rfl,rfl⟩) hS ?_;simp only [Act.put,List.setIfInBounds_toArray,List.set_cons_zero,List.set_cons_succ];refine wpAnyH_take (i:=17) (oi:={ dst:=some 74,op:=_,type:=_,pos:=_,after:=_,guard:=_ }) (v:=undef) rfl (by kernel_rfl) (by kernel_rfl) (by kernel_rfl) (fun _ _ _ h=>h) (Or.inr ⟨by rfl,rfl⟩) hS ?_;simp only [Act.put,List.setIfInBounds_toArray,List.set_cons_zero,List.set_cons_succ];refine wpAnyH_take (i:=18) (oi:={ dst:=some 75,op:=_,type:=_,pos:=_,after:=_,guard:=_ }) (v:=undef) rfl (by kernel_rfl) (by kernel_rfl) (by kernel_rfl) (fun _ _ _ h=>h) (Or.inr ⟨by rfl,rfl⟩) hS ?_;simp only [Act.put,List.setIfInBounds_toArray,List.set_cons_zero,List.set_cons_succ];refine wpAnyH_take (i:=19) (oi:={ dst:=some 76,op:=_,type:=_,pos:=_,after:=_,guard:=_ }) (v:=?vx20) rfl (by kernel_rfl) (by kernel_rfl) (by kernel_rfl) (fun _ _ _ h=>h) (Or.inl ⟨by rfl,?hyx20⟩) hS ?restx20
         case hyx20 =>
          intro z hz;obtain ⟨z1,z2,z3,z4,z5⟩:=hz
          go_simp
          try (with_reducible rfl)
         simp only [Act.put,List.setIfInBounds_toArray,List.set_cons_zero,List.set_cons_succ];refine wpAnyH_done (by kernel_rfl) ?_ _
         gi_wp2
         exact ⟨(Kt (Bl:=lb+4) (B:=lb+3) qaJ.out).1,(Kt (Bl:=lb+4) (B:=lb+3) qaJ.out).2,HI.out.same qaJ.out (fun o ho=>by rw [HST.out,← ho,HALL.out];rfl)⟩
        ·
         rw [if_neg cc] at hlo2;have ccb:decide (qh<lo)=false:=decide_eq_false cc;clear cc;obtain ⟨hi2,hhi1,hhi2⟩:=Option.bind_eq_some_iff.1 hlo2;have HHI:=Q0.mk hhi1;clear hhi1 hlo2
         by_cases dd:hi2<ql
         ·
          obtain rfl:false=bb:=by rw [if_pos dd] at hhi2;exact Option.some.inj hhi2
          clear hhi2;have ddb:decide (hi2<ql)=true:=decide_eq_true dd;clear dd;refine Ox hmix ?hno21 (by kernel_rfl) ?_
          case hno21=>rintro ⟨a,w,h⟩;exact h
          refine wpAny_of_held (S:=(fun z=>z.cell? ⟨lb,0,none⟩=some (.func (.func 68) #[] #[])∧z.cell? ⟨lb+1,0,none⟩=some (.func (.func 69) #[] #[])∧z.cell? ⟨w.heap.size,0,none⟩=some (.slice A0 l0.length c0)∧z.cell? ⟨wr.heap.size,0,none⟩=some (.int .i64 (YM l1 (i:Int)).f0)∧z.cell? ⟨wr.heap.size,1,none⟩=some (.int .i64 (YM l1 (i:Int)).f1))) _ _ _ _ ?_;change wpAnyH _ _ _ _ _ _ _ _ (World.drew _);refine wpAnyH_take (i:=0) (oi:={ dst:=some 57,op:=_,type:=_,pos:=_,after:=_,guard:=_ }) (v:=?vx22) rfl (by kernel_rfl) (by kernel_rfl) (by kernel_rfl) (fun _ _ _ h=>h) (Or.inl ⟨by rfl,?hyx22⟩) hS ?restx22
          case hyx22 =>
           intro z hz;obtain ⟨z1,z2,z3,z4,z5⟩:=hz
           go_simp
           try (with_reducible rfl)
          simp only [Act.put,List.setIfInBounds_toArray,List.set_cons_zero,List.set_cons_succ];refine wpAnyH_take (i:=1) (oi:={ dst:=some 58,op:=_,type:=_,pos:=_,after:=_,guard:=_ }) (v:=?vx23) rfl (by kernel_rfl) (by kernel_rfl) (by kernel_rfl) (fun _ _ _ h=>h) (Or.inl ⟨by rfl,?hyx23⟩) hS ?restx23
          case hyx23 =>
           intro z hz;obtain ⟨z1,z2,z3,z4,z5⟩:=hz
           go_simp
           try (with_reducible rfl)
          simp only [Act.put,List.setIfInBounds_toArray,List.set_cons_zero,List.set_cons_succ];refine wpAnyH_take (i:=2) (oi:={ dst:=some 59,op:=_,type:=_,pos:=_,after:=_,guard:=_ }) (v:=?vx24) rfl (by kernel_rfl) (by kernel_rfl) (by kernel_rfl) (fun _ _ _ h=>h) (Or.inl ⟨by rfl,?hyx24⟩) hS ?restx24
          case hyx24 =>
           intro z hz;obtain ⟨z1,z2,z3,z4,z5⟩:=hz
           go_simp
           try (with_reducible rfl)
          simp only [Act.put,List.setIfInBounds_toArray,List.set_cons_zero,List.set_cons_succ];refine wpAnyH_take (i:=3) (oi:={ dst:=some 60,op:=_,type:=_,pos:=_,after:=_,guard:=_ }) (v:=?vx25) rfl (by kernel_rfl) (by kernel_rfl) (by kernel_rfl) (fun _ _ _ h=>h) (Or.inl ⟨by rfl,?hyx25⟩) hS ?restx25
          case hyx25 =>
           intro z hz;obtain ⟨z1,z2,z3,z4,z5⟩:=hz
           go_simp
           try (with_reducible rfl)
          simp only [Act.put,List.setIfInBounds_toArray,List.set_cons_zero,List.set_cons_succ];refine wpAnyH_take (i:=5) (oi:={ dst:=some 62,op:=_,type:=_,pos:=_,after:=_,guard:=_ }) (v:=?vx26) rfl (by kernel_rfl) (by kernel_rfl) (by kernel_rfl) (fun _ _ _ h=>h) (Or.inl ⟨by rfl,?hyx26⟩) hS ?restx26
          case hyx26 =>
           intro z hz;obtain ⟨z1,z2,z3,z4,z5⟩:=hz
           go_simp
           try (with_reducible rfl)
          simp only [Act.put,List.setIfInBounds_toArray,List.set_cons_zero,List.set_cons_succ];refine wpAnyH_take (i:=6) (oi:={ dst:=some 63,op:=_,type:=_,pos:=_,after:=_,guard:=_ }) (v:=?vx27) rfl (by kernel_rfl) (by kernel_rfl) (by kernel_rfl) (fun _ _ _ h=>h) (Or.inl ⟨by rfl,?hyx27⟩) hS ?restx27
          case hyx27 =>
           intro z hz;obtain ⟨z1,z2,z3,z4,z5⟩:=hz
           go_simp
           try (with_reducible rfl)
          simp only [Act.put,List.setIfInBounds_toArray,List.set_cons_zero,List.set_cons_succ];refine wpAnyH_take (i:=7) (oi:={ dst:=some 64,op:=_,type:=_,pos:=_,after:=_,guard:=_ }) (v:=?vx28) rfl (by kernel_rfl) (by kernel_rfl) (by kernel_rfl) (fun _ _ _ h=>h) (Or.inl ⟨by rfl,?hyx28⟩) hS ?restx28
          case hyx28 =>
           intro z hz;obtain ⟨z1,z2,z3,z4,z5⟩:=hz
           go_simp
           try (with_reducible rfl)
          simp only [Act.put,List.setIfInBounds_toArray,List.set_cons_zero,List.set_cons_succ];refine wpAnyH_ready (rs:=[4]) (by kernel_rfl) (by simp) ?_;refine AllReadyH.cons (o:={ dst:=some 61,op:=.call { callee:=.value (.func 71),args:=#[.tmp 57,.tmp 58,.tmp 59,.tmp 60],argTypes:=#[104,37,31,3] },type:=3,pos:=_,after:=_,guard:=none }) rfl (fun K hK => ?_) AllReadyH.nil;refine XL Try.func71 (by kernel_rfl) rfl #[.agg #[.func (.func 68) #[] #[]],.slice Ax x.length cx,.slice A0 l0.length c0,.int .i64 (i:Int)] (by rfl) rfl rfl (by (try simp only [List.map_toArray,List.map_cons,List.map_nil]);first|done|rfl) ?_;refine (QK.calls k 0 Ax cx x A0 c0 l0 (i:Int) lo _ ?q1w128 hcx ?q2w128 HC0.out HLO.out).mono ?_
          case q1w128=>exact Kd.C_below HCX.out (Yr HBe.out)
          case q2w128=>exact Kd.C_below HR0.out (HI.out.bx.below.trans ((Yr HBe.out).mono hww))
          rintro e w1 ⟨rfl,qcV⟩;refine ⟨_,rfl,?_⟩;have qaJ:=Q0.mk (show Below W.heap.size W w1 from (Yr HBe.out).trans (qcV.mono (Yr HBe.out).size));have hS1:=(show _ from hSb w1 ((show Below We.heap.size We w1 from (Yr (Below.refl We.heap.size We)).trans (qcV.mono ((Yr (Below.refl We.heap.size We)).size)))));clear hS;refine hK.out _ _ hS1 (fun hS => ?_);simp only [Act.put,List.setIfInBounds_toArray,List.set_cons_zero,List.set_cons_succ];refine wpAnyH_take (i:=8) (oi:={ dst:=some 65,op:=_,type:=_,pos:=_,after:=_,guard:=_ }) (v:=?vx29) rfl (by kernel_rfl) (by kernel_rfl) (by kernel_rfl) (fun _ _ _ h=>h) (Or.inl ⟨by rfl,?hyx29⟩) hS ?restx29
          case hyx29 =>
           intro z hz;obtain ⟨z1,z2,z3,z4,z5⟩:=hz
           go_simp
           try (with_reducible rfl)
          simp only [Act.put,List.setIfInBounds_toArray,List.set_cons_zero,List.set_cons_succ];refine wpAnyH_take (i:=9) (oi:={ dst:=some 66,op:=_,type:=_,pos:=_,after:=_,guard:=_ }) (v:=?vx30) rfl (by kernel_rfl) (by kernel_rfl) (by kernel_rfl) (fun _ _ _ h=>h) (Or.inl ⟨by rfl,?hyx30⟩) hS ?restx30
          case hyx30 =>
           intro z hz;obtain ⟨z1,z2,z3,z4,z5⟩:=hz
           go_simp
           try (with_reducible rfl)
          simp only [Act.put,List.setIfInBounds_toArray,List.set_cons_zero,List.set_cons_succ];refine wpAnyH_take (i:=10) (oi:={ dst:=some 67,op:=_,type:=_,pos:=_,after:=_,guard:=_ }) (v:=?vx31) rfl (by kernel_rfl) (by kernel_rfl) (by kernel_rfl) (fun _ _ _ h=>h) (Or.inl ⟨by rfl,?hyx31⟩) hS ?restx31
          case hyx31 =>
           intro z hz;obtain ⟨z1,z2,z3,z4,z5⟩:=hz
           go_simp
           try (with_reducible rfl)
          simp only [Act.put,List.setIfInBounds_toArray,List.set_cons_zero,List.set_cons_succ];refine wpAnyH_take (i:=11) (oi:={ dst:=some 68,op:=_,type:=_,pos:=_,after:=_,guard:=_ }) (v:=?vx32) rfl (by kernel_rfl) (by kernel_rfl) (by kernel_rfl) (fun _ _ _ h=>h) (Or.inl ⟨by rfl,?hyx32⟩) hS ?restx32
          case hyx32 =>
           intro z hz;obtain ⟨z1,z2,z3,z4,z5⟩:=hz
           go_simp
           try (with_reducible rfl)
          simp only [Act.put,List.setIfInBounds_toArray,List.set_cons_zero,List.set_cons_succ];refine wpAnyH_take (i:=12) (oi:={ dst:=some 69,op:=_,type:=_,pos:=_,after:=_,guard:=_ }) (v:=?vx33) rfl (by kernel_rfl) (by kernel_rfl) (by kernel_rfl) (fun _ _ _ h=>h) (Or.inl ⟨by rfl,?hyx33⟩) hS ?restx33
          case hyx33 =>
           intro z hz;obtain ⟨z1,z2,z3,z4,z5⟩:=hz
           go_simp
           try (with_reducible rfl)
          simp only [Act.put,List.setIfInBounds_toArray,List.set_cons_zero,List.set_cons_succ];refine wpAnyH_take (i:=13) (oi:={ dst:=some 70,op:=_,type:=_,pos:=_,after:=_,guard:=_ }) (v:=?vx34) rfl (by kernel_rfl) (by kernel_rfl) (by kernel_rfl) (fun _ _ _ h=>h) (Or.inl ⟨by rfl,?hyx34⟩) hS ?restx34
          case hyx34 =>
           intro z hz;obtain ⟨z1,z2,z3,z4,z5⟩:=hz
           go_simp
           try (with_reducible rfl)
          simp only [Act.put,List.setIfInBounds_toArray,List.set_cons_zero,List.set_cons_succ];refine wpAnyH_take (i:=15) (oi:={ dst:=some 72,op:=_,type:=_,pos:=_,after:=_,guard:=_ }) (v:=?vx35) rfl (by kernel_rfl) (by kernel_rfl) (by kernel_rfl) (fun _ _ _ h=>h) (Or.inl ⟨by rfl,?hyx35⟩) hS ?restx35
          case hyx35 =>
           intro z hz;obtain ⟨z1,z2,z3,z4,z5⟩:=hz
           go_simp
           try (with_reducible rfl)
          simp only [Act.put,List.setIfInBounds_toArray,List.set_cons_zero,List.set_cons_succ];refine wpAnyH_take (i:=16) (oi:={ dst:=some 73,op:=_,type:=_,pos:=_,after:=_,guard:=_ }) (v:=?vx36) rfl (by kernel_rfl) (by kernel_rfl) (by kernel_rfl) (fun _ _ _ h=>h) (Or.inl ⟨by rfl,?hyx36⟩) hS ?restx36
          case hyx36 =>
           intro z hz;obtain ⟨z1,z2,z3,z4,z5⟩:=hz
           go_simp
           try (with_reducible rfl)
          simp only [Act.put,List.setIfInBounds_toArray,List.set_cons_zero,List.set_cons_succ];refine wpAnyH_take (i:=17) (oi:={ dst:=some 74,op:=_,type:=_,pos:=_,after:=_,guard:=_ }) (v:=?vx37) rfl (by kernel_rfl) (by kernel_rfl) (by kernel_rfl) (fun _ _ _ h=>h) (Or.inl ⟨by rfl,?hyx37⟩) hS ?restx37
          case hyx37 =>
           intro z hz;obtain ⟨z1,z2,z3,z4,z5⟩:=hz
           go_simp
           try (with_reducible rfl)
          simp only [Act.put,List.setIfInBounds_toArray,List.set_cons_zero,List.set_cons_succ];have hbX:=(Yr (Below.refl We.heap.size We)).trans (qcV.mono (Nat.le_refl We.heap.size));refine wpAnyH_ready (rs:=[14]) (by kernel_rfl) (by simp) ?_;refine AllReadyH.cons (o:={ dst:=some 71,op:=.call { callee:=.value (.func 71),args:=#[.tmp 67,.tmp 68,.tmp 69,.tmp 70],argTypes:=#[104,37,31,3] },type:=3,pos:=_,after:=_,guard:=some (9,false) }) rfl (fun K hK => ?_) AllReadyH.nil;refine XL Try.func71 (by kernel_rfl) rfl #[.agg #[.func (.func 69) #[] #[]],.slice Ax x.length cx,.slice A0 l0.length c0,.int .i64 (i:Int)] (by rfl) rfl rfl (by (try simp only [List.map_toArray,List.map_cons,List.map_nil]);first|done|rfl) ?_;refine (QF.calls k 0 Ax cx x A0 c0 l0 (i:Int) hi2 _ ?q1w237 hcx ?q2w237 HC0.out HHI.out).mono ?_
          case q1w237=>exact Kd.C_below HCX.out qaJ.out
          case q2w237=>exact Kd.C_below HR0.out (HI.out.bx.below.trans (qaJ.out.mono hww))
          rintro e w2 ⟨rfl,hbw2⟩;refine ⟨_,rfl,?_⟩;have qjP:=Q0.mk (show Below W.heap.size W w2 from qaJ.out.trans (hbw2.mono qaJ.out.size));have hS1:=(show _ from hSb w2 ((show Below We.heap.size We w2 from hbX.trans (hbw2.mono (hbX.size)))));clear hS;refine hK.out _ _ hS1 (fun hS => ?_);simp only [Act.put,List.setIfInBounds_toArray,List.set_cons_zero,List.set_cons_succ];refine wpAnyH_take (i:=18) (oi:={ dst:=some 75,op:=_,type:=_,pos:=_,after:=_,guard:=_ }) (v:=?vx38) rfl (by kernel_rfl) (by kernel_rfl) (by kernel_rfl) (fun _ _ _ h=>h) (Or.inl ⟨by rfl,?hyx38⟩) hS ?restx38
          case hyx38 =>
           intro z hz;obtain ⟨z1,z2,z3,z4,z5⟩:=hz
           go_simp
           try (with_reducible rfl)
          simp only [Act.put,List.setIfInBounds_toArray,List.set_cons_zero,List.set_cons_succ];refine wpAnyH_take (i:=19) (oi:={ dst:=some 76,op:=_,type:=_,pos:=_,after:=_,guard:=_ }) (v:=?vx39) rfl (by kernel_rfl) (by kernel_rfl) (by kernel_rfl) (fun _ _ _ h=>h) (Or.inl ⟨by rfl,?hyx39⟩) hS ?restx39
          case hyx39 =>
           intro z hz;obtain ⟨z1,z2,z3,z4,z5⟩:=hz
           go_simp
           try (with_reducible rfl)
          simp only [Act.put,List.setIfInBounds_toArray,List.set_cons_zero,List.set_cons_succ];refine wpAnyH_done (by kernel_rfl) ?_ _
          gi_wp2
          exact ⟨(Kt (Bl:=lb+4) (B:=lb+3) qjP.out).1,(Kt (Bl:=lb+4) (B:=lb+3) qjP.out).2,HI.out.same qjP.out (fun o ho=>by rw [HST.out,← ho,HALL.out];rfl)⟩
         ·
          rw [if_neg dd] at hhi2;have HA2:=Q0.mk hhi2;have ddb:decide (hi2<ql)=false:=decide_eq_false dd;clear dd hhi2;refine Ox hmix ?hno40 (by kernel_rfl) ?_
          case hno40=>rintro ⟨a,w,h⟩;exact h
          refine wpAny_of_held (S:=(fun z=>z.cell? ⟨lb,0,none⟩=some (.func (.func 68) #[] #[])∧z.cell? ⟨lb+1,0,none⟩=some (.func (.func 69) #[] #[])∧z.cell? ⟨w.heap.size,0,none⟩=some (.slice A0 l0.length c0)∧z.cell? ⟨wr.heap.size,0,none⟩=some (.int .i64 (YM l1 (i:Int)).f0)∧z.cell? ⟨wr.heap.size,1,none⟩=some (.int .i64 (YM l1 (i:Int)).f1))) _ _ _ _ ?_;change wpAnyH _ _ _ _ _ _ _ _ (World.drew _);refine wpAnyH_take (i:=0) (oi:={ dst:=some 57,op:=_,type:=_,pos:=_,after:=_,guard:=_ }) (v:=?vx41) rfl (by kernel_rfl) (by kernel_rfl) (by kernel_rfl) (fun _ _ _ h=>h) (Or.inl ⟨by rfl,?hyx41⟩) hS ?restx41
          case hyx41 =>
           intro z hz;obtain ⟨z1,z2,z3,z4,z5⟩:=hz
           go_simp
           try (with_reducible rfl)
          simp only [Act.put,List.setIfInBounds_toArray,List.set_cons_zero,List.set_cons_succ];refine wpAnyH_take (i:=1) (oi:={ dst:=some 58,op:=_,type:=_,pos:=_,after:=_,guard:=_ }) (v:=?vx42) rfl (by kernel_rfl) (by kernel_rfl) (by kernel_rfl) (fun _ _ _ h=>h) (Or.inl ⟨by rfl,?hyx42⟩) hS ?restx42
          case hyx42 =>
           intro z hz;obtain ⟨z1,z2,z3,z4,z5⟩:=hz
           go_simp
           try (with_reducible rfl)
          simp only [Act.put,List.setIfInBounds_toArray,List.set_cons_zero,List.set_cons_succ];refine wpAnyH_take (i:=2) (oi:={ dst:=some 59,op:=_,type:=_,pos:=_,after:=_,guard:=_ }) (v:=?vx43) rfl (by kernel_rfl) (by kernel_rfl) (by kernel_rfl) (fun _ _ _ h=>h) (Or.inl ⟨by rfl,?hyx43⟩) hS ?restx43
          case hyx43 =>
           intro z hz;obtain ⟨z1,z2,z3,z4,z5⟩:=hz
           go_simp
           try (with_reducible rfl)
          simp only [Act.put,List.setIfInBounds_toArray,List.set_cons_zero,List.set_cons_succ];refine wpAnyH_take (i:=3) (oi:={ dst:=some 60,op:=_,type:=_,pos:=_,after:=_,guard:=_ }) (v:=?vx44) rfl (by kernel_rfl) (by kernel_rfl) (by kernel_rfl) (fun _ _ _ h=>h) (Or.inl ⟨by rfl,?hyx44⟩) hS ?restx44
          case hyx44 =>
           intro z hz;obtain ⟨z1,z2,z3,z4,z5⟩:=hz
           go_simp
           try (with_reducible rfl)
          simp only [Act.put,List.setIfInBounds_toArray,List.set_cons_zero,List.set_cons_succ];refine wpAnyH_take (i:=5) (oi:={ dst:=some 62,op:=_,type:=_,pos:=_,after:=_,guard:=_ }) (v:=?vx45) rfl (by kernel_rfl) (by kernel_rfl) (by kernel_rfl) (fun _ _ _ h=>h) (Or.inl ⟨by rfl,?hyx45⟩) hS ?restx45
          case hyx45 =>
           intro z hz;obtain ⟨z1,z2,z3,z4,z5⟩:=hz
           go_simp
           try (with_reducible rfl)
          simp only [Act.put,List.setIfInBounds_toArray,List.set_cons_zero,List.set_cons_succ];refine wpAnyH_take (i:=6) (oi:={ dst:=some 63,op:=_,type:=_,pos:=_,after:=_,guard:=_ }) (v:=?vx46) rfl (by kernel_rfl) (by kernel_rfl) (by kernel_rfl) (fun _ _ _ h=>h) (Or.inl ⟨by rfl,?hyx46⟩) hS ?restx46
          case hyx46 =>
           intro z hz;obtain ⟨z1,z2,z3,z4,z5⟩:=hz
           go_simp
           try (with_reducible rfl)
          simp only [Act.put,List.setIfInBounds_toArray,List.set_cons_zero,List.set_cons_succ];refine wpAnyH_take (i:=7) (oi:={ dst:=some 64,op:=_,type:=_,pos:=_,after:=_,guard:=_ }) (v:=?vx47) rfl (by kernel_rfl) (by kernel_rfl) (by kernel_rfl) (fun _ _ _ h=>h) (Or.inl ⟨by rfl,?hyx47⟩) hS ?restx47
          case hyx47 =>
           intro z hz;obtain ⟨z1,z2,z3,z4,z5⟩:=hz
           go_simp
           try (with_reducible rfl)
          simp only [Act.put,List.setIfInBounds_toArray,List.set_cons_zero,List.set_cons_succ];refine wpAnyH_ready (rs:=[4]) (by kernel_rfl) (by simp) ?_;refine AllReadyH.cons (o:={ dst:=some 61,op:=.call { callee:=.value (.func 71),args:=#[.tmp 57,.tmp 58,.tmp 59,.tmp 60],argTypes:=#[104,37,31,3] },type:=3,pos:=_,after:=_,guard:=none }) rfl (fun K hK => ?_) AllReadyH.nil;refine XL Try.func71 (by kernel_rfl) rfl #[.agg #[.func (.func 68) #[] #[]],.slice Ax x.length cx,.slice A0 l0.length c0,.int .i64 (i:Int)] (by rfl) rfl rfl (by (try simp only [List.map_toArray,List.map_cons,List.map_nil]);first|done|rfl) ?_;refine (QK.calls k 0 Ax cx x A0 c0 l0 (i:Int) lo _ ?q1w147 hcx ?q2w147 HC0.out HLO.out).mono ?_
          case q1w147=>exact Kd.C_below HCX.out (Yr HBe.out)
          case q2w147=>exact Kd.C_below HR0.out (HI.out.bx.below.trans ((Yr HBe.out).mono hww))
          rintro e w1 ⟨rfl,qcV⟩;refine ⟨_,rfl,?_⟩;have qaJ:=Q0.mk (show Below W.heap.size W w1 from (Yr HBe.out).trans (qcV.mono (Yr HBe.out).size));have hS1:=(show _ from hSb w1 ((show Below We.heap.size We w1 from (Yr (Below.refl We.heap.size We)).trans (qcV.mono ((Yr (Below.refl We.heap.size We)).size)))));clear hS;refine hK.out _ _ hS1 (fun hS => ?_);simp only [Act.put,List.setIfInBounds_toArray,List.set_cons_zero,List.set_cons_succ];refine wpAnyH_take (i:=8) (oi:={ dst:=some 65,op:=_,type:=_,pos:=_,after:=_,guard:=_ }) (v:=?vx48) rfl (by kernel_rfl) (by kernel_rfl) (by kernel_rfl) (fun _ _ _ h=>h) (Or.inl ⟨by rfl,?hyx48⟩) hS ?restx48
          case hyx48 =>
           intro z hz;obtain ⟨z1,z2,z3,z4,z5⟩:=hz
           go_simp
           try (with_reducible rfl)
          simp only [Act.put,List.setIfInBounds_toArray,List.set_cons_zero,List.set_cons_succ];refine wpAnyH_take (i:=9) (oi:={ dst:=some 66,op:=_,type:=_,pos:=_,after:=_,guard:=_ }) (v:=?vx49) rfl (by kernel_rfl) (by kernel_rfl) (by kernel_rfl) (fun _ _ _ h=>h) (Or.inl ⟨by rfl,?hyx49⟩) hS ?restx49
          case hyx49 =>
           intro z hz;obtain ⟨z1,z2,z3,z4,z5⟩:=hz
           go_simp
           try (with_reducible rfl)
          simp only [Act.put,List.setIfInBounds_toArray,List.set_cons_zero,List.set_cons_succ];refine wpAnyH_take (i:=10) (oi:={ dst:=some 67,op:=_,type:=_,pos:=_,after:=_,guard:=_ }) (v:=?vx50) rfl (by kernel_rfl) (by kernel_rfl) (by kernel_rfl) (fun _ _ _ h=>h) (Or.inl ⟨by rfl,?hyx50⟩) hS ?restx50
          case hyx50 =>
           intro z hz;obtain ⟨z1,z2,z3,z4,z5⟩:=hz
           go_simp
           try (with_reducible rfl)
          simp only [Act.put,List.setIfInBounds_toArray,List.set_cons_zero,List.set_cons_succ];refine wpAnyH_take (i:=11) (oi:={ dst:=some 68,op:=_,type:=_,pos:=_,after:=_,guard:=_ }) (v:=?vx51) rfl (by kernel_rfl) (by kernel_rfl) (by kernel_rfl) (fun _ _ _ h=>h) (Or.inl ⟨by rfl,?hyx51⟩) hS ?restx51
          case hyx51 =>
           intro z hz;obtain ⟨z1,z2,z3,z4,z5⟩:=hz
           go_simp
           try (with_reducible rfl)
          simp only [Act.put,List.setIfInBounds_toArray,List.set_cons_zero,List.set_cons_succ];refine wpAnyH_take (i:=12) (oi:={ dst:=some 69,op:=_,type:=_,pos:=_,after:=_,guard:=_ }) (v:=?vx52) rfl (by kernel_rfl) (by kernel_rfl) (by kernel_rfl) (fun _ _ _ h=>h) (Or.inl ⟨by rfl,?hyx52⟩) hS ?restx52
          case hyx52 =>
           intro z hz;obtain ⟨z1,z2,z3,z4,z5⟩:=hz
           go_simp
           try (with_reducible rfl)
          simp only [Act.put,List.setIfInBounds_toArray,List.set_cons_zero,List.set_cons_succ];refine wpAnyH_take (i:=13) (oi:={ dst:=some 70,op:=_,type:=_,pos:=_,after:=_,guard:=_ }) (v:=?vx53) rfl (by kernel_rfl) (by kernel_rfl) (by kernel_rfl) (fun _ _ _ h=>h) (Or.inl ⟨by rfl,?hyx53⟩) hS ?restx53
          case hyx53 =>
           intro z hz;obtain ⟨z1,z2,z3,z4,z5⟩:=hz
           go_simp
           try (with_reducible rfl)
          simp only [Act.put,List.setIfInBounds_toArray,List.set_cons_zero,List.set_cons_succ];refine wpAnyH_take (i:=15) (oi:={ dst:=some 72,op:=_,type:=_,pos:=_,after:=_,guard:=_ }) (v:=?vx54) rfl (by kernel_rfl) (by kernel_rfl) (by kernel_rfl) (fun _ _ _ h=>h) (Or.inl ⟨by rfl,?hyx54⟩) hS ?restx54
          case hyx54 =>
           intro z hz;obtain ⟨z1,z2,z3,z4,z5⟩:=hz
           go_simp
           try (with_reducible rfl)
          simp only [Act.put,List.setIfInBounds_toArray,List.set_cons_zero,List.set_cons_succ];refine wpAnyH_take (i:=16) (oi:={ dst:=some 73,op:=_,type:=_,pos:=_,after:=_,guard:=_ }) (v:=?vx55) rfl (by kernel_rfl) (by kernel_rfl) (by kernel_rfl) (fun _ _ _ h=>h) (Or.inl ⟨by rfl,?hyx55⟩) hS ?restx55
          case hyx55 =>
           intro z hz;obtain ⟨z1,z2,z3,z4,z5⟩:=hz
           go_simp
           try (with_reducible rfl)
          simp only [Act.put,List.setIfInBounds_toArray,List.set_cons_zero,List.set_cons_succ];refine wpAnyH_take (i:=17) (oi:={ dst:=some 74,op:=_,type:=_,pos:=_,after:=_,guard:=_ }) (v:=?vx56) rfl (by kernel_rfl) (by kernel_rfl) (by kernel_rfl) (fun _ _ _ h=>h) (Or.inl ⟨by rfl,?hyx56⟩) hS ?restx56
          case hyx56 =>
           intro z hz;obtain ⟨z1,z2,z3,z4,z5⟩:=hz
           go_simp
           try (with_reducible rfl)
          simp only [Act.put,List.setIfInBounds_toArray,List.set_cons_zero,List.set_cons_succ];have hbX:=(Yr (Below.refl We.heap.size We)).trans (qcV.mono (Nat.le_refl We.heap.size));refine wpAnyH_ready (rs:=[14]) (by kernel_rfl) (by simp) ?_;refine AllReadyH.cons (o:={ dst:=some 71,op:=.call { callee:=.value (.func 71),args:=#[.tmp 67,.tmp 68,.tmp 69,.tmp 70],argTypes:=#[104,37,31,3] },type:=3,pos:=_,after:=_,guard:=some (9,false) }) rfl (fun K hK => ?_) AllReadyH.nil;refine XL Try.func71 (by kernel_rfl) rfl #[.agg #[.func (.func 69) #[] #[]],.slice Ax x.length cx,.slice A0 l0.length c0,.int .i64 (i:Int)] (by rfl) rfl rfl (by (try simp only [List.map_toArray,List.map_cons,List.map_nil]);first|done|rfl) ?_;refine (QF.calls k 0 Ax cx x A0 c0 l0 (i:Int) hi2 _ ?q1w256 hcx ?q2w256 HC0.out HHI.out).mono ?_
          case q1w256=>exact Kd.C_below HCX.out qaJ.out
          case q2w256=>exact Kd.C_below HR0.out (HI.out.bx.below.trans (qaJ.out.mono hww))
          rintro e w2 ⟨rfl,hbw2⟩;refine ⟨_,rfl,?_⟩;have qjP:=Q0.mk (show Below W.heap.size W w2 from qaJ.out.trans (hbw2.mono qaJ.out.size));have hS1:=(show _ from hSb w2 ((show Below We.heap.size We w2 from hbX.trans (hbw2.mono (hbX.size)))));clear hS;refine hK.out _ _ hS1 (fun hS => ?_);simp only [Act.put,List.setIfInBounds_toArray,List.set_cons_zero,List.set_cons_succ];refine wpAnyH_take (i:=18) (oi:={ dst:=some 75,op:=_,type:=_,pos:=_,after:=_,guard:=_ }) (v:=?vx57) rfl (by kernel_rfl) (by kernel_rfl) (by kernel_rfl) (fun _ _ _ h=>h) (Or.inl ⟨by rfl,?hyx57⟩) hS ?restx57
          case hyx57 =>
           intro z hz;obtain ⟨z1,z2,z3,z4,z5⟩:=hz
           go_simp
           try (with_reducible rfl)
          simp only [Act.put,List.setIfInBounds_toArray,List.set_cons_zero,List.set_cons_succ];refine wpAnyH_take (i:=19) (oi:={ dst:=some 76,op:=_,type:=_,pos:=_,after:=_,guard:=_ }) (v:=?vx58) rfl (by kernel_rfl) (by kernel_rfl) (by kernel_rfl) (fun _ _ _ h=>h) (Or.inl ⟨by rfl,?hyx58⟩) hS ?restx58
          case hyx58 =>
           intro z hz;obtain ⟨z1,z2,z3,z4,z5⟩:=hz
           go_simp
           try (with_reducible rfl)
          simp only [Act.put,List.setIfInBounds_toArray,List.set_cons_zero,List.set_cons_succ];refine wpAnyH_done (by kernel_rfl) ?_ _
          gi_wp2
          gi_roundg d
          case measure=>omega
          case rel=>exact ⟨i+1,by simp,⟨by have:=HD.out;omega⟩,⟨HA2.out⟩,qjP⟩
       ·
        have hgk:gk=0:=by have:=HD.out;omega
        subst hgk;obtain rfl:true=bb:=Option.some.inj HA.out;clear HA
        have HO:=Q0.mk (show ShO w A0 c0 l0.length A1 c1 l1.length lb (lb+1) (lb+2) (lb+3) Ax x W wr out from
         ⟨(Kt (Bl:=lb+4) (B:=lb+3) HB.out).1,(Kt (Bl:=lb+4) (B:=lb+3) HB.out).2,HI.out.bx.keep HB.out,Qe HI.out.lo HB.out,Qe HI.out.hi HB.out,⟨vo,Qe HBO.out HB.out,Kd.R_below HR3.out HB.out,HN.out⟩,Kd.C_below HCX.out HB.out,Nat.le_trans HI.out.sz HB.out.size⟩)
        clear HD HB qpz
        gi_upto_region 18 with (fail)
        gi_cut [79] from 80 (fun v79 wc=>v79 = .bool (decide (out=[]))∧Q0 (ShO w A0 c0 l0.length A1 c1 l1.length lb (lb+1) (lb+2) (lb+3) Ax x W wc out))
        case first =>
         obtain ⟨v2,g1,g2,g3⟩:=HO.out.ex;have hob:wr.cell? ⟨lb+2,0,none⟩=some v2:=(Q8 g1 0).trans rfl
         by_cases ho:out=[]
         ·
          rw [g3.2 ho] at hob;have hvn:=Lib.run_eql_slice_nil (P:=Try.prog) wr 32 25 none 0 0 0 0 Try.underlying32;clear g1 g2 g3
          gi_wp2
          gi_meet
          case rel=>exact ⟨by rw [decide_eq_true ho],HO⟩
         ·
          obtain ⟨go,co,eo,_,_,_⟩:=Kd.R_form g2 (List.length_pos_iff.2 ho);rw [eo] at hob;have hvn:=Lib.run_eql_slice_nil (P:=Try.prog) wr 32 25 (some ⟨go,0,none⟩) out.length co 0 0 Try.underlying32;clear g1 g2 g3 eo
          gi_wp2
          gi_meet
          case rel=>exact ⟨by rw [decide_eq_false ho],HO⟩
        case rest =>
         clear HO;obtain ⟨rfl,HO⟩:=hcut
         gi_upto_if 79 with (fail)
         gi_cut [] from 79 (fun wc=>Q0 (ShO w A0 c0 l0.length A1 c1 l1.length lb (lb+1) (lb+2) (lb+3) Ax x W wc (if out=[] then x.map (fun n=>⟨n,n⟩) else out)))
         case first =>
          by_cases ho:out=[]
          ·
           have hod:decide (out=[])=true:=decide_eq_true ho;subst ho
           gi_wp2
           gi_loopg [82] x.length (fun d v82 wr => ∃ (i:Nat),v82 = .int .i64 (i:Int)∧Q0 (i+d=x.length)∧Q0 (ShO w A0 c0 l0.length A1 c1 l1.length lb (lb+1) (lb+2) (lb+3) Ax x W wr ((x.take i).map (fun n=>⟨n,n⟩))))
           case atStart=>exact ⟨0,rfl,⟨by omega⟩,⟨by simpa using HO.out⟩⟩
           case round =>
            obtain ⟨j,rfl,HJ,HO2⟩:=hrel
            by_cases hj:j<x.length
            ·
             obtain ⟨d,rfl⟩:∃ d,gk=d+1:=⟨gk-1,by have:=HJ.out;omega⟩;obtain ⟨ad,ea,hx0⟩:=Kd.at_int HO2.out.cx (j:Int) (by omega) (by omega);subst ea;rw [Int.toNat_natCast] at hx0;obtain ⟨v2,g1,g2,g3⟩:=HO2.out.ex;have hob:wr.cell? ⟨lb+2,0,none⟩=some v2:=(Q8 g1 0).trans rfl;have hof:=Q9 g1 0;have HG1:=Q0.mk g1;have HG2:=Q0.mk g2;have HG3:=Q0.mk g3;clear g1 g2 g3;have qbf:=Try.underlying25
             gi_upto_region 22 with (fail)
             refine qc0 ?hnoB (by kernel_rfl) ?_
             case hnoB=>rintro ⟨a,w,h⟩;exact h
             go_wp2_with (at_builtin;refine Stop.out ?_)
             refine Stop.mk ?_
             have qz2:(((x.take j).map (fun n=>(⟨n,n⟩:S25))).length+1)*16≤140737488355328:=by simp;omega
             refine Kd.R_append k25 (w0:=wr) (lb+3) rfl (.tmp 86) (.tmp 90) 32 25 (.agg #[.int .i64 0,.int .i64 0]) 16 rfl Try.underlying32 qkU rfl (by decide) (by omega) v2 ((x.take j).map (fun n=>⟨n,n⟩)) ⟨rd x j,rd x j⟩ [.int .i64 (rd x j),.int .i64 (rd x j)] (fun _=>True) (fun _=>False) rfl rfl (Ow _ _ _ ⟨rd x j,rd x j⟩) (fun _ hk=>hk.elim) (fun _ _=>trivial) HG2.out (Below.refl _ _) HO2.out.sz qz2 ?_;intro v3 w3 hr3 hb3 qpG qCL;obtain ⟨go3,co3,rfl,_,_,_⟩:=Kd.R_form hr3 (by simp);have qC9:w3.cell? ⟨lb+2,0,none⟩=some v2:=(Q8 (Jy HG2.out qpG (by decide) HG1.out) 0).trans rfl;have qDa:=Q9 (Jy HG2.out qpG (by decide) HG1.out) 0;have HSN:=Q0.mk (HO2.out.app qoI HG1.out HG2.out qpG hr3 (by simp) HROW.out)
             go_wp2
             gi_wp2
             gi_roundg d
             case measure=>omega
             case rel =>
              refine ⟨j+1,by simp,⟨by have:=HJ.out;omega⟩,⟨?_⟩⟩;have h5:=HSN.out;rw [List.take_succ_eq_append_getElem hj,List.map_append,List.map_singleton]
              have h6:rd x (j:Int)=x[j]:=by simp [rd,List.getD_eq_getElem?_getD,List.getElem?_eq_getElem hj]
              rw [← h6]
              simpa using h5
            ·
             have hjx:j=x.length:=by have:=HJ.out;omega
             subst hjx
             gi_wp2
             gi_meet
             case rel=>exact ⟨by have:=HO2.out;rw [List.take_length] at this;exact this⟩
          ·
           have hod:decide (out=[])=false:=decide_eq_false ho
           gi_wp2
           gi_meet
           case rel=>exact ⟨by rw [if_neg ho];exact HO.out⟩
         case rest =>
          clear HO;have HO:=hcut;obtain ⟨o2,ho2⟩:∃ o2,(if out=[] then x.map (fun n=>(⟨n,n⟩:S25)) else out)=o2:=⟨_,rfl⟩
          have hl2:o2.length=x.length:=by
           rw [← ho2]
           rcases HOUT.out with h|h
           ·
            rw [if_pos h];simp
           ·
            by_cases h0:out=[]
            ·
             rw [if_pos h0];simp
            ·
             rw [if_neg h0,h,HXL.out]
          rw [ho2] at HO;have HL2:=Q0.mk hl2;have HE2:=Q0.mk ho2;clear ho2 hl2
          gi_wp2
          gi_loopg [95] x.length (fun d v95 wr => ∃ (i:Nat),v95 = .int .i64 (i:Int)∧Q0 (i+d=x.length)∧Q0 (ShO w A0 c0 l0.length A1 c1 l1.length lb (lb+1) (lb+2) (lb+3) Ax x W wr (OK o2 x i)))
          case atStart=>exact ⟨0,rfl,⟨by omega⟩,⟨by rw [qhM];exact HO.out⟩⟩
          case round =>
           obtain ⟨j,rfl,HJ,HQ⟩:=hrel
           by_cases hj:j<x.length
           ·
            obtain ⟨d,rfl⟩:∃ d,gk=d+1:=⟨gk-1,by have:=HJ.out;omega⟩;obtain ⟨ad,ea,hx0⟩:=Kd.at_int HQ.out.cx (j:Int) (by omega) (by omega);subst ea;rw [Int.toNat_natCast] at hx0;obtain ⟨v2,g1,g2,g3⟩:=HQ.out.ex;obtain ⟨oj,hoj⟩:∃ oj,OK o2 x j=oj:=⟨_,rfl⟩
            have hjo:oj.length=x.length:=by rw [← hoj];exact qdA HL2.out (by omega)
            rw [hoj] at g2 g3;obtain ⟨go,co,rfl,_,_,_⟩:=Kd.R_form g2 (by omega);have hob:wr.cell? ⟨lb+2,0,none⟩=some (.slice (some ⟨go,0,none⟩) oj.length co):=(Q8 g1 0).trans rfl
            have hjl:j<oj.length:=by omega
            obtain ⟨c,hcl,hM,hcc,hcf⟩:=Kd.R_elem g2 z25 (j:Int) (by omega) (by omega);obtain ⟨p,hp⟩:∃ p,oj.getD j z25=p:=⟨_,rfl⟩;rw [Int.toNat_natCast] at hM hcc hcf;rw [hp] at hM;obtain rfl:=qjh hM;have he0:wr.cell? ⟨go,j*2,none⟩=some (.int .i64 p.f0):=hcc 0 _ rfl;have he1:wr.cell? ⟨go,j*2+1,none⟩=some (.int .i64 p.f1):=hcc 1 _ rfl;have HCC:=Q0.mk hcc;have HG1:=Q0.mk g1;have HG2:=Q0.mk g2;have HP:=Q0.mk hp;have HOJ:=Q0.mk hoj;have HJO:=Q0.mk hjo;clear hcc g1 g2 g3 hp hoj hjo hcl hM hcf;have qbf:=Try.underlying25
            gi_upto_region 27 with (fail)
            refine X3 18 hmix ?hnoC (by kernel_rfl) (by kernel_rfl) ?_
            case hnoC=>rintro ⟨a,w,h⟩;exact h
            simp only [List.take_succ_cons,List.take_zero,List.drop_succ_cons,List.drop_zero]
            repeat still_step
            refine wpStill_nil ?_;change wpList _ _ _ _ _ (World.drew _);refine Kd.R_store k25 (w0:=wr.drew) (lb+3) rfl rfl 25 (.tmp 117) (.tmp 116) rfl 25 (o':=j*2) (j:Int) 0 oj ⟨if rd x (j:Int)<p.f0 then rd x (j:Int) else p.f0,if p.f1<rd x (j:Int) then rd x (j:Int) else p.f1⟩ (.agg #[.int .i64 (if rd x (j:Int)<p.f0 then rd x (j:Int) else p.f0),.int .i64 (if p.f1<rd x (j:Int) then rd x (j:Int) else p.f1)]) [.int .i64 (if rd x (j:Int)<p.f0 then rd x (j:Int) else p.f0),.int .i64 (if p.f1<rd x (j:Int) then rd x (j:Int) else p.f1)] [.int .i64 p.f0,.int .i64 p.f1] (fun _=>True) (fun _=>False) rfl (by rw [Int.toNat_natCast];rfl) rfl rfl (by rw [qng.1];rfl) (by simp [Value.oneCell']) (Kd.R_drew HG2.out) (by omega) (by omega) rfl (by rw [Int.toNat_natCast];exact HCC.out) (Nat.le_refl 2) (Ow _ _ _ ⟨if rd x (j:Int)<p.f0 then rd x (j:Int) else p.f0,if p.f1<rd x (j:Int) then rd x (j:Int) else p.f1⟩) (fun _ hk=>hk.elim) (Below.refl _ _) ?_;intro w1 hr1 hb1 qz1
            have hset:oj.set (j:Int).toNat ⟨if rd x (j:Int)<p.f0 then rd x (j:Int) else p.f0,if p.f1<rd x (j:Int) then rd x (j:Int) else p.f1⟩=OK o2 x (j+1):=by
             rw [Int.toNat_natCast,← HOJ.out]
             exact qhL HL2.out hj (by rw [HOJ.out];exact HP.out)
            rw [hset] at hr1;have HSN:=Q0.mk (HQ.out.put qoI HG1.out HG2.out (UU qz1) hr1 (by intro e;have:=qdA (j:=j+1) HL2.out (by omega);rw [e] at this;simp at this;omega) HROW.out);clear hset
            go_wp2
            all_goals
             gi_wp2
            all_goals
             gi_roundg d
             case measure=>omega
             case rel=>exact ⟨j+1,by simp,⟨by have:=HJ.out;omega⟩,HSN⟩
           ·
            have hjx:j=x.length:=by have:=HJ.out;omega
            subst hjx
            gi_wp2
            have h5:=HQ.out;rw [qjy HL2.out] at h5;obtain ⟨v2,g1,g2,g3⟩:=h5.ex;refine ⟨h5.kf,h5.kr,⟨⟨v2,_,?_,g1,g2,g3⟩,h5.bx,h5.lo,h5.hi,h5.sz⟩⟩;rw [HST.out,← HE2.out]
            rfl
     case done =>
      intro D W hD hI hK;obtain ⟨v,out,h1,h2,h3,h4⟩:=hI.ex;have hco:W.cell? ⟨lb+2,0,none⟩=some v:=(Q8 h2 0).trans rfl;have hF2:=HF.out;rw [h1] at hF2
      have hDw:w.heap.size≤D:=by omega
      have HBW:=Q0.mk hI.bx.below;have HKD:=Q0.mk hK;have HR3:=Q0.mk h3
      have heq:∀ (a:Option Addr) (n c:Nat),(binOp .eql 32 (.slice a n c) (.slice none 0 0)).run Try.prog W = .ok (.bool a.isNone) W:=fun a n c=>Lib.run_eql_slice_nil W 32 25 a n c 0 0 Try.underlying32
      clear hI h2 h1 h3 HF hK
      by_cases ho:out=[]
      ·
       obtain rfl:=h4.2 ho;subst ho
       injection hF2 with hF2
       replace hF2:(([],4):List S25 × Int)=(r1,r2):=hF2
       injection hF2 with e1 e2
       subst e1 e2;clear h4 HR3
       gi_wp2
       simp only [Exit.noGoto];refine ⟨by simp,.inl ⟨_,_,rfl,run_takeDeferred HKD.out,?_⟩⟩;refine ⟨_,results_tmp2 rfl _ _ _,?_⟩
       exact ⟨_,rfl,Kd.V_nil _ _ _ _ _,HBW.out.grown (grownBy_putObj' _ _ _) HBW.out.size (fun r e=>by cases e;omega)⟩
      ·
       injection hF2 with hF2
       replace hF2:(out,(0:Int))=(r1,r2):=by rw [← hF2];simp [ho]
       injection hF2 with e1 e2
       subst e1 e2;have hpos:0<out.length:=List.length_pos_iff.2 ho;obtain ⟨go,co,eo,gb,gl,cl,HG⟩:=Kd.R_form HR3.out hpos;subst eo;have hcc:=(Kd.R_reads' HR3.out).2.1;have hcut:=UG (P:=Try.prog) 32 25 Try.underlying32 rfl (some ⟨go,0,none⟩) out.length co hcc;have HGC:=Q0.mk HG;clear HG h4 ho
       gi_wp2
       simp only [Exit.noGoto];refine ⟨by simp,.inl ⟨_,_,rfl,run_takeDeferred HKD.out,?_⟩⟩;refine ⟨_,results_tmp2 rfl _ _ _,?_⟩;have hgp:=grownBy_putObj' W D (.deferred none);have hR4:Kd.R k25 25 W w.heap.size (fun k_=>w.heap.size≤k_) (.slice (some ⟨go,0,none⟩) out.length co) out:=Kd.R_mono (Kd.R_bound (Kd.R_lower HR3.out (by omega))) (fun _ hk=>hk.2.1)
       have hne:go≠D:=fun e=>by
        have h5:=HGC.out;rw [e,HKD.out] at h5;cases h5
       refine ⟨_,rfl,qj0 (Kd.R_mono (Kd.R_move (Kd.R_types2 hR4 HKD.out) (fun k hk=>World.putObj_heap_other hk.2)) (fun _ hk=>hk.1)) _ rfl,HBW.out.grown hgp HBW.out.size (fun r e=>by cases e;omega)⟩
end Go.Proofs.Ytmhomdohhihlcaa.P
namespace Go.Proofs.Ytmhomdohhihlcaa.P
open Go.RowKit Go.Proofs.YtmhomdohhihlcaaW.PrintWords Go.Proofs.YtmhomdohhihlcaaW.PrintLast Go.Proofs.YtmhomdohhihlcaaW.PrintMore
section
attribute [local go_sem] Yn Yp YA YC Yb Yc Yo Yq
mutual
def QS.l0:Nat→List (S68)→Int→Int→Bool→List (S68)→Int→Int→Option (Int × Int × Int)
 | 0,_,_,_,_,_,_,_=>none
 | k+1,x0,x1,x2,x8,x17,x18,x19=>if x19<x18 then (if 0≤x19 then (if x19<(x17.length:Int) then (if x8=true then ((Qj.f ((Ye x17 x19).f0) 0 10000).bind fun t105=>(if t105=true then ((J8.f ((Ye x17 x19).f1.f0) ((Ye x17 x19).f1.f1) 20).bind fun qcK=>(QS.l0 k x0 x1 x2 qcK x17 x18 (wrap64 (x19+1)))) else (QS.l0 k x0 x1 x2 false x17 x18 (wrap64 (x19+1))))) else (QS.l0 k x0 x1 x2 false x17 x18 (wrap64 (x19+1)))) else (none)) else (none)) else (if x8=true then ((Qj.f x1 0 20).bind fun t107=>(if t107=true then ((Qj.f x2 x1 20).bind fun qlf=>(QS.j1 k x0 x1 x2 (!qlf))) else (QS.j1 k x0 x1 x2 true))) else (some (0,0,90)))
def QS.j1:Nat→List (S68)→Int→Int→Bool→Option (Int × Int × Int)
 | 0,_,_,_,_=>none
 | k+1,x0,x1,x2,x46=>if x46=true then (some (0,0,7)) else (QS.l1 k x1 x2 x0 (x0.length:Int) 0 0 0)
def QS.l1:Nat→Int→Int→List (S68)→Int→Int→Int→Int→Option (Int × Int × Int)
 | 0,_,_,_,_,_,_,_=>none
 | k+1,x1,x2,x48,x49,x50,KZ,O0=>if x50<x49 then (if 0≤x50 then (if x50<(x48.length:Int) then (if x1≤((Ye x48 x50).f1.f0) then (QS.j3 k x1 x2 x48 x49 x50 (decide (((Ye x48 x50).f1.f1)≤x2)) KZ O0 ((Ye x48 x50).f0) ((Ye x48 x50).f1.f0) ((Ye x48 x50).f1.f1)) else (QS.j3 k x1 x2 x48 x49 x50 false KZ O0 ((Ye x48 x50).f0) ((Ye x48 x50).f1.f0) ((Ye x48 x50).f1.f1))) else (none)) else (none)) else (some (KZ,O0,0))
def QS.j3:Nat→Int→Int→List (S68)→Int→Int→Bool→Int→Int→Int→Int→Int→Option (Int × Int × Int)
 | 0,_,_,_,_,_,_,_,_,_,_,_=>none
 | k+1,x1,x2,x48,x49,x50,x65,KZ,O0,qaE,qiK,qiL=>if x65=true then (if x1≤qiL then (if qiK≤x2 then (QS.l1 k x1 x2 x48 x49 (wrap64 (x50+1)) (wrap64 (KZ+qaE)) (wrap64 (O0+qaE))) else (QS.l1 k x1 x2 x48 x49 (wrap64 (x50+1)) (wrap64 (KZ+qaE)) O0)) else (QS.l1 k x1 x2 x48 x49 (wrap64 (x50+1)) (wrap64 (KZ+qaE)) O0)) else (if x1≤qiL then (if qiK≤x2 then (QS.l1 k x1 x2 x48 x49 (wrap64 (x50+1)) KZ (wrap64 (O0+qaE))) else (QS.l1 k x1 x2 x48 x49 (wrap64 (x50+1)) KZ O0)) else (QS.l1 k x1 x2 x48 x49 (wrap64 (x50+1)) KZ O0))
end
def QS.f (k:Nat) (l0:List (S68)) (a1:Int) (a2:Int):Option (Int × Int × Int):=QS.l0 k l0 a1 a2 (decide ((l0.length:Int)≤20)) l0 (l0.length:Int) 0
set_option maxHeartbeats 8000000 in
set_option maxRecDepth 100000 in
theorem QS.calls (k:Nat) (A0:Option Addr) (c0:Nat) (l0:List (S68)) (a1:Int) (a2:Int) (r1:Int) (r2:Int) (r3:Int) (w:World) (hr0:Kd.C k68 w A0 l0.length l0) (hc0:l0.length≤c0) (h:QS.f k l0 a1 a2=some (r1,r2,r3)) :
  Calls Try.prog 19 #[.slice A0 l0.length c0,.int .i64 a1,.int .i64 a2] w fun e w'=>e = .returned (.tuple #[.agg #[.int .i64 r1,.int .i64 r2],.int .i64 r3])∧Below w.heap.size w w':=by
 have qbf:=Try.underlying25
 have qAr:=Try.underlying68
 have HR0:=Q0.mk hr0
 have HC0:=Q0.mk hc0
 clear hr0 hc0
 have HB:=Q0.mk (Below.refl w.heap.size w)
 have H:(QS.l0 k l0 a1 a2 (decide ((l0.length:Int)≤20)) l0 (l0.length:Int) 0)=some (r1,r2,r3):=h
 clear h
 have H':=Q0.mk H
 clear H
 go_enter Try.func19,Try.ntmps19
 go_wp2_with (first|((with_reducible refine QW (N:=6) rfl ?_);refine Yw ?hg (N:=6) ?hd (cs:=#[.int .i64 0,.int .i64 0]) (t:=25) ?hr ?_;(case hd=>rfl);(case hg=>rfl);(case hr=>first|(go_simp;done)|(go_simp;rfl));intro J3 hg w4 hbox hb;have n0_:=Q0.mk (Qm (by repeat (first|(with_reducible first|exact HB.out|apply Q3|apply Q1|apply Q6)|exact HB.out)) hb);have n1_:=Q0.mk (hbox);have n2_:=Q0.mk ((by rw [hg];exact (Qf (by repeat (first|(with_reducible first|exact HB.out|apply Q3|apply Q1|apply Q6)|exact HB.out))):w.heap.size≤J3));have n3_:=n2_;clear HB;have HB:=n0_;have Zf:=n1_;have qAB:=n2_;have Js:=n3_;clear n0_ n1_ n2_ n3_ hb hbox hg))
 go_loopg [8,19] k (fun kq v8 v19 w' => ∃ (Oc:Bool) (ZO:Int),v8 = .bool Oc∧v19 = .int .i64 ZO∧Q0 (QS.l0 kq l0 a1 a2 Oc l0 (l0.length:Int) ZO=some (r1,r2,r3))∧Q0 (kq≤k)∧Q0 (w'.heap[J3]? = some (.cells #[.int .i64 0,.int .i64 0] 25 (0,0)))∧Q0 (Below w.heap.size w w'))
 case atStart=>exact ⟨(decide ((l0.length:Int)≤20)),(0),(by first|rfl|(simp;done)|(simp [*];done)),(by first|rfl|(simp;done)|(simp [*];done)),H',⟨Nat.le_refl _⟩,⟨by (with_reducible repeat (first|refine Q4 ?_ _|refine Q7 ?_|refine Q2 ?_ _));exact Zf.out⟩,⟨by repeat (first|(with_reducible first|exact HB.out|apply Q3|apply Q1|apply Q6|refine Q5 ?_ Js.out)|exact HB.out)⟩⟩
 case round =>
  clear H'
  try clear c1
  try clear p2
  obtain ⟨Oc,ZO,rfl,rfl,HA,HK1,Zf,HB⟩:=hrel
  cases gk with
  | zero=>exact absurd HA.out (by simp [QS.l0])
  | succ k1 =>
   have H:=HA.out
   clear HA
   simp only [QS.l0] at H
   by_cases c5:ZO<(l0.length:Int)
   ·
    rw [if_pos c5] at H;have c5b0:decide (ZO<(l0.length:Int))=true:=decide_eq_true c5;clear c5
    by_cases c6:0≤ZO
    ·
     rw [if_pos c6] at H;have c6b0:decide (0≤ZO)=true:=decide_eq_true c6;clear c6
     by_cases c7:ZO<(l0.length:Int)
     ·
      rw [if_pos c7] at H;have c7b0:decide (ZO<(l0.length:Int))=true:=decide_eq_true c7;clear c7
      by_cases c8:Oc=true
      ·
       subst c8
       have H1:((Qj.f ((Ye l0 ZO).f0) 0 10000).bind fun t105=>(if t105=true then ((J8.f ((Ye l0 ZO).f1.f0) ((Ye l0 ZO).f1.f1) 20).bind fun qcK=>(QS.l0 k1 l0 a1 a2 qcK l0 (l0.length:Int) (wrap64 (ZO+1)))) else (QS.l0 k1 l0 a1 a2 false l0 (l0.length:Int) (wrap64 (ZO+1)))))=some (r1,r2,r3):=by rw [if_pos rfl] at H;exact H
       clear H;have H:=H1;clear H1;replace H:=Option.bind_eq_some_iff.mp H;obtain ⟨t105,A90,H⟩:=H;replace H:(if t105=true then ((J8.f ((Ye l0 ZO).f1.f0) ((Ye l0 ZO).f1.f1) 20).bind fun qcK=>(QS.l0 k1 l0 a1 a2 qcK l0 (l0.length:Int) (wrap64 (ZO+1)))) else (QS.l0 k1 l0 a1 a2 false l0 (l0.length:Int) (wrap64 (ZO+1))))=some (r1,r2,r3):=H;have A9:=Q0.mk A90;clear A90
       by_cases c10:t105=true
       ·
        subst c10
        have H1:((J8.f ((Ye l0 ZO).f1.f0) ((Ye l0 ZO).f1.f1) 20).bind fun qcK=>(QS.l0 k1 l0 a1 a2 qcK l0 (l0.length:Int) (wrap64 (ZO+1))))=some (r1,r2,r3):=by rw [if_pos rfl] at H;exact H
        clear H;have H:=H1;clear H1;replace H:=Option.bind_eq_some_iff.mp H;obtain ⟨qcK,qjF,H⟩:=H;replace H:(QS.l0 k1 l0 a1 a2 qcK l0 (l0.length:Int) (wrap64 (ZO+1)))=some (r1,r2,r3):=H;have A11:=Q0.mk qjF;clear qjF;have H':=Q0.mk H;clear H;have qax:0≤(ZO:Int):=of_decide_eq_true (by first|(with_reducible assumption)|assumption);have qay:ZO<(l0.length:Int):=of_decide_eq_true (by first|(with_reducible assumption)|assumption);obtain ⟨qou,qkf,Gi,Gj,Gk⟩:=qdO HR0.out ZO qax qay;cases qkf;replace Gi:=(HB.out.cell (World.block_lt_of_cell? w _ Gi)).trans Gi;replace Gj:=(HB.out.cell (World.block_lt_of_cell? w _ Gj)).trans Gj;replace Gk:=(HB.out.cell (World.block_lt_of_cell? w _ Gk)).trans Gk;replace qax:=eq_true qax;replace qay:=eq_true qay
        go_wp2_with (first|((with_reducible refine QW (N:=10) rfl ?_);refine Yw ?hg (N:=10) ?hd (cs:=#[.int .i64 0,.int .i64 0,.int .i64 0]) (t:=68) ?hr ?_;(case hd=>rfl);(case hg=>rfl);(case hr=>first|(go_simp;done)|(go_simp;rfl));intro Gh hg w12 hbox hb;have n0_:=Q0.mk (Qe (g:=J3) (by (with_reducible repeat (first|refine Q4 ?_ _|refine Q7 ?_|refine Q2 ?_ _));exact Zf.out) hb);have n1_:=Q0.mk (Qm (by repeat (first|(with_reducible first|exact HB.out|apply Q3|apply Q1|apply Q6|refine Q5 ?_ Js.out)|exact HB.out)) hb);have n2_:=Q0.mk (hbox);have n3_:=Q0.mk ((by rw [hg];exact (Qf (by repeat (first|(with_reducible first|exact HB.out|apply Q3|apply Q1|apply Q6|refine Q5 ?_ Js.out)|exact HB.out))):w.heap.size≤Gh));have n4_:=n3_;have n5_:=Q0.mk ((by rw [hg];exact Nat.ne_of_lt (QL (g:=J3) (by (with_reducible repeat (first|refine Q4 ?_ _|refine Q7 ?_|refine Q2 ?_ _));exact Zf.out)):J3≠Gh));have n6_:=Q0.mk (n5_.out.symm);clear Zf HB;have Zf:=n0_;have HB:=n1_;have Gm:=n2_;have qnW:=n3_;have qdf:=n4_;have Ju:=n5_;have UA:=n6_;clear n0_ n1_ n2_ n3_ n4_ n5_ n6_ hb hbox hg;have qBm:=UA.out;have qBY:=Ju.out;have OY:w12.cell? ⟨Gh,0,none⟩=some (.int .i64 0):=(Q8 Gm.out 0).trans rfl;have OZ:w12.cell? ⟨Gh,1,none⟩=some (.int .i64 0):=(Q8 Gm.out 1).trans rfl;have U0:w12.cell? ⟨Gh,2,none⟩=some (.int .i64 0):=(Q8 Gm.out 2).trans rfl;have Ua:=Q9 Gm.out 0;have Ub:=Q9 Gm.out 1;have Uc:=Q9 Gm.out 2)|(go_at_call 65;(with_reducible refine (Qj.calls ((Ye l0 ZO).f0) 0 10000 true _ A9.out).mono ?_);rintro e w' ⟨rfl,⟨nd,rfl⟩⟩)|(go_at_call 66;(with_reducible refine (J8.calls ((Ye l0 ZO).f1.f0) ((Ye l0 ZO).f1.f1) 20 qcK _ A11.out).mono ?_);rintro e w15 ⟨rfl,hb⟩;have n0_:=Q0.mk (Qe (g:=J3) (o:=.cells #[.int .i64 0,.int .i64 0] 25 (0,0)) (by (with_reducible repeat (first|refine Q4 ?_ _|refine Q7 ?_|refine Q2 ?_ _));refine Qk ?_ Ju.out _;(with_reducible repeat (first|refine Q4 ?_ _|refine Q7 ?_|refine Q2 ?_ _));refine Qk ?_ Ju.out _;(with_reducible repeat (first|refine Q4 ?_ _|refine Q7 ?_|refine Q2 ?_ _));refine Qk ?_ Ju.out _;(with_reducible repeat (first|refine Q4 ?_ _|refine Q7 ?_|refine Q2 ?_ _));exact Zf.out) hb);have n1_:=Q0.mk (Qe (g:=Gh) (o:=.cells #[.int .i64 ((Ye l0 ZO).f0),.int .i64 ((Ye l0 ZO).f1.f0),.int .i64 ((Ye l0 ZO).f1.f1)] 68 (0,0)) (by (with_reducible repeat (first|refine Q4 ?_ _|refine Q7 ?_|refine Q2 ?_ _));refine Qu (cs:=#[.int .i64 ((Ye l0 ZO).f0),.int .i64 ((Ye l0 ZO).f1.f0),.int .i64 0]) ?_ 2 _ rfl;(with_reducible repeat (first|refine Q4 ?_ _|refine Q7 ?_|refine Q2 ?_ _));refine Qu (cs:=#[.int .i64 ((Ye l0 ZO).f0),.int .i64 0,.int .i64 0]) ?_ 1 _ rfl;(with_reducible repeat (first|refine Q4 ?_ _|refine Q7 ?_|refine Q2 ?_ _));refine Qu (cs:=#[.int .i64 0,.int .i64 0,.int .i64 0]) ?_ 0 _ rfl;(with_reducible repeat (first|refine Q4 ?_ _|refine Q7 ?_|refine Q2 ?_ _));exact Gm.out) hb);have n2_:=Q0.mk (Qm (by repeat (first|(with_reducible first|exact HB.out|apply Q3|apply Q1|apply Q6|refine Q5 ?_ Js.out|refine Q5 ?_ qdf.out)|exact HB.out)) hb);clear Zf Gm HB;have Zf:=n0_;have Gm:=n1_;have HB:=n2_;clear n0_ n1_ n2_;(try clear hb);(try clear hb2);(try clear hk);(try clear hi)))
        go_roundg k1
        case measure=>have:=HK1.out;omega
        case rel=>exact ⟨(qcK),(wrap64 (ZO+1)),(by first|rfl|(simp;done)|(simp [*];done)),(by first|rfl|(simp;done)|(simp [*];done)),H',⟨by have:=HK1.out;omega⟩,⟨by (with_reducible repeat (first|refine Q4 ?_ _|refine Q7 ?_|refine Q2 ?_ _));exact Zf.out⟩,⟨by repeat (first|(with_reducible first|exact HB.out|apply Q3|apply Q1|apply Q6|refine Q5 ?_ Js.out|refine Q5 ?_ qdf.out)|exact HB.out)⟩⟩
       replace c10:=Bool.eq_false_iff.mpr c10;subst c10
       have H1:(QS.l0 k1 l0 a1 a2 false l0 (l0.length:Int) (wrap64 (ZO+1)))=some (r1,r2,r3):=by rw [if_neg (show ¬ (false=true) by decide)] at H;exact H
       clear H;have H:=H1;clear H1;have H':=Q0.mk H;clear H;have qax:0≤(ZO:Int):=of_decide_eq_true (by first|(with_reducible assumption)|assumption);have qay:ZO<(l0.length:Int):=of_decide_eq_true (by first|(with_reducible assumption)|assumption);obtain ⟨qou,qkf,Gi,Gj,Gk⟩:=qdO HR0.out ZO qax qay;cases qkf;replace Gi:=(HB.out.cell (World.block_lt_of_cell? w _ Gi)).trans Gi;replace Gj:=(HB.out.cell (World.block_lt_of_cell? w _ Gj)).trans Gj;replace Gk:=(HB.out.cell (World.block_lt_of_cell? w _ Gk)).trans Gk;replace qax:=eq_true qax;replace qay:=eq_true qay
       go_wp2_with (first|((with_reducible refine QW (N:=10) rfl ?_);refine Yw ?hg (N:=10) ?hd (cs:=#[.int .i64 0,.int .i64 0,.int .i64 0]) (t:=68) ?hr ?_;(case hd=>rfl);(case hg=>rfl);(case hr=>first|(go_simp;done)|(go_simp;rfl));intro Gh hg w16 hbox hb;have n0_:=Q0.mk (Qe (g:=J3) (by (with_reducible repeat (first|refine Q4 ?_ _|refine Q7 ?_|refine Q2 ?_ _));exact Zf.out) hb);have n1_:=Q0.mk (Qm (by repeat (first|(with_reducible first|exact HB.out|apply Q3|apply Q1|apply Q6|refine Q5 ?_ Js.out)|exact HB.out)) hb);have n2_:=Q0.mk (hbox);have n3_:=Q0.mk ((by rw [hg];exact (Qf (by repeat (first|(with_reducible first|exact HB.out|apply Q3|apply Q1|apply Q6|refine Q5 ?_ Js.out)|exact HB.out))):w.heap.size≤Gh));have n4_:=n3_;have n5_:=Q0.mk ((by rw [hg];exact Nat.ne_of_lt (QL (g:=J3) (by (with_reducible repeat (first|refine Q4 ?_ _|refine Q7 ?_|refine Q2 ?_ _));exact Zf.out)):J3≠Gh));have n6_:=Q0.mk (n5_.out.symm);clear Zf HB;have Zf:=n0_;have HB:=n1_;have Gm:=n2_;have qnW:=n3_;have qdf:=n4_;have Ju:=n5_;have UA:=n6_;clear n0_ n1_ n2_ n3_ n4_ n5_ n6_ hb hbox hg;have qsB:=UA.out;have qsP:=Ju.out;have U4:w16.cell? ⟨Gh,0,none⟩=some (.int .i64 0):=(Q8 Gm.out 0).trans rfl;have U5:w16.cell? ⟨Gh,1,none⟩=some (.int .i64 0):=(Q8 Gm.out 1).trans rfl;have U6:w16.cell? ⟨Gh,2,none⟩=some (.int .i64 0):=(Q8 Gm.out 2).trans rfl;have Ug:=Q9 Gm.out 0;have Uh:=Q9 Gm.out 1;have Ui:=Q9 Gm.out 2)|(go_at_call 65;(with_reducible refine (Qj.calls ((Ye l0 ZO).f0) 0 10000 false _ A9.out).mono ?_);rintro e w' ⟨rfl,⟨nd,rfl⟩⟩))
       go_roundg k1
       case measure=>have:=HK1.out;omega
       case rel=>exact ⟨(false),(wrap64 (ZO+1)),(by first|rfl|(simp;done)|(simp [*];done)),(by first|rfl|(simp;done)|(simp [*];done)),H',⟨by have:=HK1.out;omega⟩,⟨by (with_reducible repeat (first|refine Q4 ?_ _|refine Q7 ?_|refine Q2 ?_ _));refine Qk ?_ Ju.out _;(with_reducible repeat (first|refine Q4 ?_ _|refine Q7 ?_|refine Q2 ?_ _));refine Qk ?_ Ju.out _;(with_reducible repeat (first|refine Q4 ?_ _|refine Q7 ?_|refine Q2 ?_ _));refine Qk ?_ Ju.out _;(with_reducible repeat (first|refine Q4 ?_ _|refine Q7 ?_|refine Q2 ?_ _));exact Zf.out⟩,⟨by repeat (first|(with_reducible first|exact HB.out|apply Q3|apply Q1|apply Q6|refine Q5 ?_ Js.out|refine Q5 ?_ qdf.out)|exact HB.out)⟩⟩
      replace c8:=Bool.eq_false_iff.mpr c8;subst c8
      have H1:(QS.l0 k1 l0 a1 a2 false l0 (l0.length:Int) (wrap64 (ZO+1)))=some (r1,r2,r3):=by rw [if_neg (show ¬ (false=true) by decide)] at H;exact H
      clear H;have H:=H1;clear H1;have H':=Q0.mk H;clear H;have qax:0≤(ZO:Int):=of_decide_eq_true (by first|(with_reducible assumption)|assumption);have qay:ZO<(l0.length:Int):=of_decide_eq_true (by first|(with_reducible assumption)|assumption);obtain ⟨qou,qkf,Gi,Gj,Gk⟩:=qdO HR0.out ZO qax qay;cases qkf;replace Gi:=(HB.out.cell (World.block_lt_of_cell? w _ Gi)).trans Gi;replace Gj:=(HB.out.cell (World.block_lt_of_cell? w _ Gj)).trans Gj;replace Gk:=(HB.out.cell (World.block_lt_of_cell? w _ Gk)).trans Gk;replace qax:=eq_true qax;replace qay:=eq_true qay
      go_wp2_with (first|((with_reducible refine QW (N:=10) rfl ?_);refine Yw ?hg (N:=10) ?hd (cs:=#[.int .i64 0,.int .i64 0,.int .i64 0]) (t:=68) ?hr ?_;(case hd=>rfl);(case hg=>rfl);(case hr=>first|(go_simp;done)|(go_simp;rfl));intro Gh hg w19 hbox hb;have n0_:=Q0.mk (Qe (g:=J3) (by (with_reducible repeat (first|refine Q4 ?_ _|refine Q7 ?_|refine Q2 ?_ _));exact Zf.out) hb);have n1_:=Q0.mk (Qm (by repeat (first|(with_reducible first|exact HB.out|apply Q3|apply Q1|apply Q6|refine Q5 ?_ Js.out)|exact HB.out)) hb);have n2_:=Q0.mk (hbox);have n3_:=Q0.mk ((by rw [hg];exact (Qf (by repeat (first|(with_reducible first|exact HB.out|apply Q3|apply Q1|apply Q6|refine Q5 ?_ Js.out)|exact HB.out))):w.heap.size≤Gh));have n4_:=n3_;have n5_:=Q0.mk ((by rw [hg];exact Nat.ne_of_lt (QL (g:=J3) (by (with_reducible repeat (first|refine Q4 ?_ _|refine Q7 ?_|refine Q2 ?_ _));exact Zf.out)):J3≠Gh));have n6_:=Q0.mk (n5_.out.symm);clear Zf HB;have Zf:=n0_;have HB:=n1_;have Gm:=n2_;have qnW:=n3_;have qdf:=n4_;have Ju:=n5_;have UA:=n6_;clear n0_ n1_ n2_ n3_ n4_ n5_ n6_ hb hbox hg;have qsC:=UA.out;have qsQ:=Ju.out;have Ol:w19.cell? ⟨Gh,0,none⟩=some (.int .i64 0):=(Q8 Gm.out 0).trans rfl;have Om:w19.cell? ⟨Gh,1,none⟩=some (.int .i64 0):=(Q8 Gm.out 1).trans rfl;have On:w19.cell? ⟨Gh,2,none⟩=some (.int .i64 0):=(Q8 Gm.out 2).trans rfl;have Ot:=Q9 Gm.out 0;have Ou:=Q9 Gm.out 1;have Ov:=Q9 Gm.out 2))
      go_roundg k1
      case measure=>have:=HK1.out;omega
      case rel=>exact ⟨(false),(wrap64 (ZO+1)),(by first|rfl|(simp;done)|(simp [*];done)),(by first|rfl|(simp;done)|(simp [*];done)),H',⟨by have:=HK1.out;omega⟩,⟨by (with_reducible repeat (first|refine Q4 ?_ _|refine Q7 ?_|refine Q2 ?_ _));refine Qk ?_ Ju.out _;(with_reducible repeat (first|refine Q4 ?_ _|refine Q7 ?_|refine Q2 ?_ _));refine Qk ?_ Ju.out _;(with_reducible repeat (first|refine Q4 ?_ _|refine Q7 ?_|refine Q2 ?_ _));refine Qk ?_ Ju.out _;(with_reducible repeat (first|refine Q4 ?_ _|refine Q7 ?_|refine Q2 ?_ _));exact Zf.out⟩,⟨by repeat (first|(with_reducible first|exact HB.out|apply Q3|apply Q1|apply Q6|refine Q5 ?_ Js.out|refine Q5 ?_ qdf.out)|exact HB.out)⟩⟩
     rw [if_neg c7] at H
     exact absurd H (by simp)
    rw [if_neg c6] at H
    exact absurd H (by simp)
   rw [if_neg c5] at H
   have c5b0:decide (ZO<(l0.length:Int))=false:=decide_eq_false c5
   clear c5
   by_cases c22:Oc=true
   ·
    subst c22
    have H1:((Qj.f a1 0 20).bind fun t107=>(if t107=true then ((Qj.f a2 a1 20).bind fun qlf=>(QS.j1 k1 l0 a1 a2 (!qlf))) else (QS.j1 k1 l0 a1 a2 true)))=some (r1,r2,r3):=by rw [if_pos rfl] at H;exact H
    clear H;have H:=H1;clear H1;have qb8:=Q0.mk H;clear H
    go_upto_region 9 with (fail)
    go_cut [46] (fun v46 wc => ∃ (kq:Nat) (qeV:Bool),v46 = .bool qeV∧Q0 (QS.j1 kq l0 a1 a2 qeV=some (r1,r2,r3))∧Q0 (kq≤k1)∧Q0 (wc.heap[J3]? = some (.cells #[.int .i64 0,.int .i64 0] 25 (0,0)))∧Q0 (Below w.heap.size w wc))
    case first =>
     have H:=qb8.out;clear qb8;replace H:=Option.bind_eq_some_iff.mp H;obtain ⟨t107,qe4,H⟩:=H;replace H:(if t107=true then ((Qj.f a2 a1 20).bind fun qlf=>(QS.j1 k1 l0 a1 a2 (!qlf))) else (QS.j1 k1 l0 a1 a2 true))=some (r1,r2,r3):=H;have A24:=Q0.mk qe4;clear qe4
     by_cases c25:t107=true
     ·
      subst c25
      have H1:((Qj.f a2 a1 20).bind fun qlf=>(QS.j1 k1 l0 a1 a2 (!qlf)))=some (r1,r2,r3):=by rw [if_pos rfl] at H;exact H
      clear H;have H:=H1;clear H1;replace H:=Option.bind_eq_some_iff.mp H;obtain ⟨qlf,qqd,H⟩:=H;replace H:(QS.j1 k1 l0 a1 a2 (!qlf))=some (r1,r2,r3):=H;have A26:=Q0.mk qqd;clear qqd;have H':=Q0.mk H;clear H
      go_wp2_with (first|((with_reducible refine Qx (f:=65) rfl ?_);refine YL (some 39) rfl rfl Try.func65 (by kernel_rfl) rfl #[.int .i64 a1,.int .i64 0,.int .i64 20] rfl (by (try simp only [List.map_toArray,List.map_cons,List.map_nil]);first|done|rfl|(simp only [List.length_drop,List.length_take];rfl)) ?_;(with_reducible refine (Qj.calls a1 0 20 true _ A24.out).mono ?_);rintro e w' ⟨rfl,⟨nd,rfl⟩⟩;refine ⟨_,rfl,?_⟩)|(go_at_call 65;(with_reducible refine (Qj.calls a2 a1 20 qlf _ A26.out).mono ?_);rintro e w' ⟨rfl,⟨nd,rfl⟩⟩))
      go_meet
      case rel=>exact ⟨_,(!qlf),(by first|rfl|(simp;done)|(simp [*];done)),H',⟨by have:=HK1.out;first|omega|exact Nat.le_refl _⟩,⟨by (with_reducible repeat (first|refine Q4 ?_ _|refine Q7 ?_|refine Q2 ?_ _));exact Zf.out⟩,⟨by repeat (first|(with_reducible first|exact HB.out|apply Q3|apply Q1|apply Q6|refine Q5 ?_ Js.out)|exact HB.out)⟩⟩
     replace c25:=Bool.eq_false_iff.mpr c25;subst c25
     have H1:(QS.j1 k1 l0 a1 a2 true)=some (r1,r2,r3):=by rw [if_neg (show ¬ (false=true) by decide)] at H;exact H
     clear H;have H:=H1;clear H1;have H':=Q0.mk H;clear H
     go_wp2_with (first|((with_reducible refine Qx (f:=65) rfl ?_);refine YL (some 39) rfl rfl Try.func65 (by kernel_rfl) rfl #[.int .i64 a1,.int .i64 0,.int .i64 20] rfl (by (try simp only [List.map_toArray,List.map_cons,List.map_nil]);first|done|rfl|(simp only [List.length_drop,List.length_take];rfl)) ?_;(with_reducible refine (Qj.calls a1 0 20 false _ A24.out).mono ?_);rintro e w' ⟨rfl,⟨nd,rfl⟩⟩;refine ⟨_,rfl,?_⟩))
     go_meet
     case rel=>exact ⟨_,(true),(by first|rfl|(simp;done)|(simp [*];done)),H',⟨by have:=HK1.out;first|omega|exact Nat.le_refl _⟩,⟨by (with_reducible repeat (first|refine Q4 ?_ _|refine Q7 ?_|refine Q2 ?_ _));exact Zf.out⟩,⟨by repeat (first|(with_reducible first|exact HB.out|apply Q3|apply Q1|apply Q6|refine Q5 ?_ Js.out)|exact HB.out)⟩⟩
    case rest =>
     clear qb8;(try clear c1);(try clear p1);(try clear q1);(try clear hx1);(try clear c2);(try clear p2);(try clear c5);(try clear c5b0);(try clear c6);(try clear c6b0);(try clear p6);(try clear c7);(try clear c7b0);(try clear c8);(try clear c10);(try clear p10);(try clear q10);(try clear qpK);(try clear c13);(try clear c17);(try clear c19);(try clear c20);(try clear c22);(try clear c25);(try clear OY);(try clear OZ);(try clear U0);(try clear U4);(try clear U5);(try clear U6);(try clear Ol);(try clear Om);(try clear On);(try clear Ua);(try clear Ub);(try clear Uc);(try clear Ug);(try clear Uh);(try clear Ui);(try clear Ot);(try clear Ou);(try clear Ov);(try clear Gi);(try clear Gj);(try clear Gk);(try clear qax);(try clear p2);(try clear qay);obtain ⟨kq,qeV,rfl,HA,Kw,Zf,HB⟩:=hcut
     cases kq with
     | zero=>exact absurd HA.out (by simp [QS.j1])
     | succ OO =>
      have H:=HA.out;clear HA;simp only [QS.j1] at H
      by_cases c27:qeV=true
      ·
       subst c27
       have H1:(some (0,0,7))=some (r1,r2,r3):=by rw [if_pos rfl] at H;exact H
       clear H;have H:=H1;clear H1;simp only [Option.some.injEq,Prod.mk.injEq] at H;obtain ⟨rfl,rfl,rfl⟩:=H;have qd2:wc.cell? ⟨J3,0,none⟩=some (.int .i64 0):=(Q8 Zf.out 0).trans rfl;have qd3:wc.cell? ⟨J3,1,none⟩=some (.int .i64 0):=(Q8 Zf.out 1).trans rfl;have qee:=Q9 Zf.out 0;have qef:=Q9 Zf.out 1
       go_wp2
       refine bodyPost_ret (Xv rfl _ _ J3 25 #[.int .i64 0,.int .i64 0] (0,0) _ rfl (by (with_reducible repeat (first|refine Q4 ?_ _|refine Q7 ?_|refine Q2 ?_ _));refine Qu (cs:=#[.int .i64 0,.int .i64 0]) ?_ 1 _ rfl;(with_reducible repeat (first|refine Q4 ?_ _|refine Q7 ?_|refine Q2 ?_ _));refine Qu (cs:=#[.int .i64 0,.int .i64 0]) ?_ 0 _ rfl;(with_reducible repeat (first|refine Q4 ?_ _|refine Q7 ?_|refine Q2 ?_ _));exact Zf.out) Try.underlying25 rfl (by kernel_rfl)) rfl ?_
       exact ⟨by first|rfl|(simp [Qq,Qr]<;>rfl)|(simp [*,Qq,Qr]<;>rfl),by repeat (first|(with_reducible first|exact HB.out|apply Q3|apply Q1|apply Q6|refine Q5 ?_ Js.out)|exact HB.out)⟩
      replace c27:=Bool.eq_false_iff.mpr c27;subst c27
      have H1:(QS.l1 OO a1 a2 l0 (l0.length:Int) 0 0 0)=some (r1,r2,r3):=by rw [if_neg (show ¬ (false=true) by decide)] at H;exact H
      clear H;have H:=H1;clear H1;have H':=Q0.mk H;clear H
      go_wp2_with (first|((with_reducible refine QW (N:=11) rfl ?_);refine Yw ?hg (N:=11) ?hd (cs:=#[.int .i64 0,.int .i64 0]) (t:=25) ?hr ?_;(case hd=>rfl);(case hg=>rfl);(case hr=>first|(go_simp;done)|(go_simp;rfl));intro GU hg w29 hbox hb;have n0_:=Q0.mk (Qe (g:=J3) (by (with_reducible repeat (first|refine Q4 ?_ _|refine Q7 ?_|refine Q2 ?_ _));exact Zf.out) hb);have n1_:=Q0.mk (Qm (by repeat (first|(with_reducible first|exact HB.out|apply Q3|apply Q1|apply Q6|refine Q5 ?_ Js.out)|exact HB.out)) hb);have n2_:=Q0.mk (hbox);have n3_:=Q0.mk ((by rw [hg];exact (Qf (by repeat (first|(with_reducible first|exact HB.out|apply Q3|apply Q1|apply Q6|refine Q5 ?_ Js.out)|exact HB.out))):w.heap.size≤GU));have n4_:=n3_;have n5_:=Q0.mk ((by rw [hg];exact Nat.ne_of_lt (QL (g:=J3) (by (with_reducible repeat (first|refine Q4 ?_ _|refine Q7 ?_|refine Q2 ?_ _));exact Zf.out)):J3≠GU));have n6_:=Q0.mk (n5_.out.symm);clear Zf HB;have Zf:=n0_;have HB:=n1_;have Jj:=n2_;have qAC:=n3_;have Ux:=n4_;have Ga:=n5_;have UB:=n6_;clear n0_ n1_ n2_ n3_ n4_ n5_ n6_ hb hbox hg))
      go_loopg [50] OO (fun kq v50 w' => ∃ (YH:Int) (YZ:Int) (Z0:Int),v50 = .int .i64 YH∧Q0 (QS.l1 kq a1 a2 l0 (l0.length:Int) YH YZ Z0=some (r1,r2,r3))∧Q0 (kq≤OO)∧Q0 (w'.heap[J3]? = some (.cells #[.int .i64 0,.int .i64 0] 25 (0,0)))∧Q0 (w'.heap[GU]? = some (.cells #[.int .i64 YZ,.int .i64 Z0] 25 (0,0)))∧Q0 (Below w.heap.size w w'))
      case atStart=>exact ⟨(0),(0),(0),(by first|rfl|(simp;done)|(simp [*];done)),H',⟨Nat.le_refl _⟩,⟨by (with_reducible repeat (first|refine Q4 ?_ _|refine Q7 ?_|refine Q2 ?_ _));exact Zf.out⟩,⟨by (with_reducible repeat (first|refine Q4 ?_ _|refine Q7 ?_|refine Q2 ?_ _));exact Jj.out⟩,⟨by repeat (first|(with_reducible first|exact HB.out|apply Q3|apply Q1|apply Q6|refine Q5 ?_ Js.out|refine Q5 ?_ Ux.out)|exact HB.out)⟩⟩
      case round =>
       clear H';(try clear c1);(try clear p1);(try clear q1);(try clear hx1);(try clear c2);(try clear p2);(try clear c5);(try clear c5b0);(try clear c6);(try clear c6b0);(try clear p6);(try clear c7);(try clear c7b0);(try clear c8);(try clear c10);(try clear p10);(try clear q10);(try clear qpK);(try clear c13);(try clear c17);(try clear c19);(try clear c20);(try clear c22);(try clear c25);(try clear c27);(try clear OY);(try clear OZ);(try clear U0);(try clear U4);(try clear U5);(try clear U6);(try clear Ol);(try clear Om);(try clear On);(try clear qd2);(try clear qd3);(try clear Ua);(try clear Ub);(try clear Uc);(try clear Ug);(try clear Uh);(try clear Ui);(try clear Ot);(try clear Ou);(try clear Ov);(try clear qee);(try clear qef);(try clear Gi);(try clear Gj);(try clear Gk);(try clear p1);(try clear p10);(try clear qax);(try clear p2);(try clear p6);(try clear q1);(try clear q10);(try clear qay);obtain ⟨YH,YZ,Z0,rfl,HA,HK3,Zf,Jj,HB⟩:=hrel
       cases gk with
       | zero=>exact absurd HA.out (by simp [QS.l1])
       | succ k3 =>
        have H:=HA.out;clear HA;simp only [QS.l1] at H
        by_cases c30:YH<(l0.length:Int)
        ·
         rw [if_pos c30] at H;have c30b0:decide (YH<(l0.length:Int))=true:=decide_eq_true c30;clear c30
         by_cases c31:0≤YH
         ·
          rw [if_pos c31] at H;have c31b0:decide (0≤YH)=true:=decide_eq_true c31;clear c31
          by_cases c32:YH<(l0.length:Int)
          ·
           rw [if_pos c32] at H;have c32b0:decide (YH<(l0.length:Int))=true:=decide_eq_true c32;clear c32;have qoY:=Q0.mk H;clear H;have qnr:0≤(YH:Int):=of_decide_eq_true (by first|(with_reducible assumption)|assumption);have qny:YH<(l0.length:Int):=of_decide_eq_true (by first|(with_reducible assumption)|assumption);obtain ⟨qAQ,qzr,qbR,qbS,qbT⟩:=qdO HR0.out YH qnr qny;cases qzr;replace qbR:=(HB.out.cell (World.block_lt_of_cell? w _ qbR)).trans qbR;replace qbS:=(HB.out.cell (World.block_lt_of_cell? w _ qbS)).trans qbS;replace qbT:=(HB.out.cell (World.block_lt_of_cell? w _ qbT)).trans qbT;replace qnr:=eq_true qnr;replace qny:=eq_true qny
           go_upto_region 15 with (first|((with_reducible refine QW (N:=13) rfl ?_);refine Yw ?hg (N:=13) ?hd (cs:=#[.int .i64 0,.int .i64 0,.int .i64 0]) (t:=68) ?hr ?_;(case hd=>rfl);(case hg=>rfl);(case hr=>first|(go_simp;done)|(go_simp;rfl));intro Jx hg w34 hbox hb;have n0_:=Q0.mk (Qe (g:=J3) (by (with_reducible repeat (first|refine Q4 ?_ _|refine Q7 ?_|refine Q2 ?_ _));exact Zf.out) hb);have n1_:=Q0.mk (Qe (g:=GU) (by (with_reducible repeat (first|refine Q4 ?_ _|refine Q7 ?_|refine Q2 ?_ _));exact Jj.out) hb);have n2_:=Q0.mk (Qm (by repeat (first|(with_reducible first|exact HB.out|apply Q3|apply Q1|apply Q6|refine Q5 ?_ Js.out|refine Q5 ?_ Ux.out)|exact HB.out)) hb);have n3_:=Q0.mk (hbox);have n4_:=Q0.mk ((by rw [hg];exact (Qf (by repeat (first|(with_reducible first|exact HB.out|apply Q3|apply Q1|apply Q6|refine Q5 ?_ Js.out|refine Q5 ?_ Ux.out)|exact HB.out))):w.heap.size≤Jx));have n5_:=n4_;have n6_:=Q0.mk ((by rw [hg];exact Nat.ne_of_lt (QL (g:=J3) (by (with_reducible repeat (first|refine Q4 ?_ _|refine Q7 ?_|refine Q2 ?_ _));exact Zf.out)):J3≠Jx));have n7_:=Q0.mk (n6_.out.symm);have n8_:=Q0.mk ((by rw [hg];exact Nat.ne_of_lt (QL (g:=GU) (by (with_reducible repeat (first|refine Q4 ?_ _|refine Q7 ?_|refine Q2 ?_ _));exact Jj.out)):GU≠Jx));have n9_:=Q0.mk (n8_.out.symm);clear Zf Jj HB;have Zf:=n0_;have Jj:=n1_;have HB:=n2_;have Zw:=n3_;have qAD:=n4_;have qaW:=n5_;have Jg:=n6_;have Gx:=n7_;have Jh:=n8_;have Gy:=n9_;clear n0_ n1_ n2_ n3_ n4_ n5_ n6_ n7_ n8_ n9_ hb hbox hg;have qsD:=Gx.out;have qsR:=Jg.out;have qsE:=Gy.out;have qsS:=Jh.out;have qma:w34.cell? ⟨Jx,0,none⟩=some (.int .i64 0):=(Q8 Zw.out 0).trans rfl;have qmb:w34.cell? ⟨Jx,1,none⟩=some (.int .i64 0):=(Q8 Zw.out 1).trans rfl;have qmc:w34.cell? ⟨Jx,2,none⟩=some (.int .i64 0):=(Q8 Zw.out 2).trans rfl;have qmM:=Q9 Zw.out 0;have qmN:=Q9 Zw.out 1;have qmO:=Q9 Zw.out 2))
           (try simp only [Act.put,List.setIfInBounds_toArray,List.set_cons_zero,List.set_cons_succ])
           go_cut [65] (fun v65 wc => ∃ (kq:Nat) (qeX:Bool),v65 = .bool qeX∧Q0 (QS.j3 kq a1 a2 l0 (l0.length:Int) YH qeX YZ Z0 ((Ye l0 YH).f0) ((Ye l0 YH).f1.f0) ((Ye l0 YH).f1.f1)=some (r1,r2,r3))∧Q0 (kq≤k3)∧Q0 (wc.heap[J3]? = some (.cells #[.int .i64 0,.int .i64 0] 25 (0,0)))∧Q0 (wc.heap[GU]? = some (.cells #[.int .i64 YZ,.int .i64 Z0] 25 (0,0)))∧Q0 (wc.heap[Jx]? = some (.cells #[.int .i64 ((Ye l0 YH).f0),.int .i64 ((Ye l0 YH).f1.f0),.int .i64 ((Ye l0 YH).f1.f1)] 68 (0,0)))∧Q0 (Below w.heap.size w wc))
           case first =>
            have H:=qoY.out;clear qoY
            by_cases c38:a1≤((Ye l0 YH).f1.f0)
            ·
             rw [if_pos c38] at H;have c38b0:decide (a1≤((Ye l0 YH).f1.f0))=true:=decide_eq_true c38;clear c38
             (first|rw [c38b0]|(simp only [Yj,Yu];rw [c38b0])|skip)
             have H':=Q0.mk H;clear H;have qoC:=Gx.out;have qoD:=Jg.out;have qsF:=Gy.out;have qsT:=Jh.out;have qig:w34.cell? ⟨Jx,0,none⟩=some (.int .i64 0):=(Q8 Zw.out 0).trans rfl;have qih:w34.cell? ⟨Jx,1,none⟩=some (.int .i64 0):=(Q8 Zw.out 1).trans rfl;have qii:w34.cell? ⟨Jx,2,none⟩=some (.int .i64 0):=(Q8 Zw.out 2).trans rfl;have qij:=Q9 Zw.out 0;have qik:=Q9 Zw.out 1;have qil:=Q9 Zw.out 2
             go_wp2
             go_meet
             case rel=>exact ⟨_,(decide (((Ye l0 YH).f1.f1)≤a2)),(by first|rfl|(simp;done)|(simp [*];done)),H',⟨by have:=HK1.out;have:=Kw.out;have:=HK3.out;first|omega|exact Nat.le_refl _⟩,⟨by (with_reducible repeat (first|refine Q4 ?_ _|refine Q7 ?_|refine Q2 ?_ _));refine Qk ?_ Jg.out _;(with_reducible repeat (first|refine Q4 ?_ _|refine Q7 ?_|refine Q2 ?_ _));refine Qk ?_ Jg.out _;(with_reducible repeat (first|refine Q4 ?_ _|refine Q7 ?_|refine Q2 ?_ _));refine Qk ?_ Jg.out _;(with_reducible repeat (first|refine Q4 ?_ _|refine Q7 ?_|refine Q2 ?_ _));exact Zf.out⟩,⟨by (with_reducible repeat (first|refine Q4 ?_ _|refine Q7 ?_|refine Q2 ?_ _));refine Qk ?_ Jh.out _;(with_reducible repeat (first|refine Q4 ?_ _|refine Q7 ?_|refine Q2 ?_ _));refine Qk ?_ Jh.out _;(with_reducible repeat (first|refine Q4 ?_ _|refine Q7 ?_|refine Q2 ?_ _));refine Qk ?_ Jh.out _;(with_reducible repeat (first|refine Q4 ?_ _|refine Q7 ?_|refine Q2 ?_ _));exact Jj.out⟩,⟨by (with_reducible repeat (first|refine Q4 ?_ _|refine Q7 ?_|refine Q2 ?_ _));refine Qu (cs:=#[.int .i64 ((Ye l0 YH).f0),.int .i64 ((Ye l0 YH).f1.f0),.int .i64 0]) ?_ 2 _ rfl;(with_reducible repeat (first|refine Q4 ?_ _|refine Q7 ?_|refine Q2 ?_ _));refine Qu (cs:=#[.int .i64 ((Ye l0 YH).f0),.int .i64 0,.int .i64 0]) ?_ 1 _ rfl;(with_reducible repeat (first|refine Q4 ?_ _|refine Q7 ?_|refine Q2 ?_ _));refine Qu (cs:=#[.int .i64 0,.int .i64 0,.int .i64 0]) ?_ 0 _ rfl;(with_reducible repeat (first|refine Q4 ?_ _|refine Q7 ?_|refine Q2 ?_ _));exact Zw.out⟩,⟨by repeat (first|(with_reducible first|exact HB.out|apply Q3|apply Q1|apply Q6|refine Q5 ?_ Js.out|refine Q5 ?_ Ux.out|refine Q5 ?_ qaW.out)|exact HB.out)⟩⟩
            rw [if_neg c38] at H;have c38b0:decide (a1≤((Ye l0 YH).f1.f0))=false:=decide_eq_false c38;clear c38
            (first|rw [c38b0]|(simp only [Yj,Yu];rw [c38b0])|skip)
            have H':=Q0.mk H;clear H;have qsG:=Gx.out;have qsU:=Jg.out;have qBv:=Gy.out;have qB7:=Jh.out;have qmj:w34.cell? ⟨Jx,0,none⟩=some (.int .i64 0):=(Q8 Zw.out 0).trans rfl;have qmk:w34.cell? ⟨Jx,1,none⟩=some (.int .i64 0):=(Q8 Zw.out 1).trans rfl;have qml:w34.cell? ⟨Jx,2,none⟩=some (.int .i64 0):=(Q8 Zw.out 2).trans rfl;have qmV:=Q9 Zw.out 0;have qmW:=Q9 Zw.out 1;have qmX:=Q9 Zw.out 2
            go_wp2
            go_meet
            case rel=>exact ⟨_,(false),(by first|rfl|(simp;done)|(simp [*];done)),H',⟨by have:=HK1.out;have:=Kw.out;have:=HK3.out;first|omega|exact Nat.le_refl _⟩,⟨by (with_reducible repeat (first|refine Q4 ?_ _|refine Q7 ?_|refine Q2 ?_ _));refine Qk ?_ Jg.out _;(with_reducible repeat (first|refine Q4 ?_ _|refine Q7 ?_|refine Q2 ?_ _));refine Qk ?_ Jg.out _;(with_reducible repeat (first|refine Q4 ?_ _|refine Q7 ?_|refine Q2 ?_ _));refine Qk ?_ Jg.out _;(with_reducible repeat (first|refine Q4 ?_ _|refine Q7 ?_|refine Q2 ?_ _));exact Zf.out⟩,⟨by (with_reducible repeat (first|refine Q4 ?_ _|refine Q7 ?_|refine Q2 ?_ _));refine Qk ?_ Jh.out _;(with_reducible repeat (first|refine Q4 ?_ _|refine Q7 ?_|refine Q2 ?_ _));refine Qk ?_ Jh.out _;(with_reducible repeat (first|refine Q4 ?_ _|refine Q7 ?_|refine Q2 ?_ _));refine Qk ?_ Jh.out _;(with_reducible repeat (first|refine Q4 ?_ _|refine Q7 ?_|refine Q2 ?_ _));exact Jj.out⟩,⟨by (with_reducible repeat (first|refine Q4 ?_ _|refine Q7 ?_|refine Q2 ?_ _));refine Qu (cs:=#[.int .i64 ((Ye l0 YH).f0),.int .i64 ((Ye l0 YH).f1.f0),.int .i64 0]) ?_ 2 _ rfl;(with_reducible repeat (first|refine Q4 ?_ _|refine Q7 ?_|refine Q2 ?_ _));refine Qu (cs:=#[.int .i64 ((Ye l0 YH).f0),.int .i64 0,.int .i64 0]) ?_ 1 _ rfl;(with_reducible repeat (first|refine Q4 ?_ _|refine Q7 ?_|refine Q2 ?_ _));refine Qu (cs:=#[.int .i64 0,.int .i64 0,.int .i64 0]) ?_ 0 _ rfl;(with_reducible repeat (first|refine Q4 ?_ _|refine Q7 ?_|refine Q2 ?_ _));exact Zw.out⟩,⟨by repeat (first|(with_reducible first|exact HB.out|apply Q3|apply Q1|apply Q6|refine Q5 ?_ Js.out|refine Q5 ?_ Ux.out|refine Q5 ?_ qaW.out)|exact HB.out)⟩⟩
           case rest =>
            clear qoY;(try clear c1);(try clear p1);(try clear q1);(try clear hx1);(try clear c2);(try clear p2);(try clear c3);(try clear c4);(try clear c5);(try clear c5b0);(try clear c6);(try clear c6b0);(try clear p6);(try clear c7);(try clear c7b0);(try clear c8);(try clear c10);(try clear p10);(try clear q10);(try clear qpK);(try clear p11);(try clear q11);(try clear qDw);(try clear c13);(try clear c17);(try clear c19);(try clear c20);(try clear c22);(try clear c25);(try clear c27);(try clear c30);(try clear c30b0);(try clear c31);(try clear c31b0);(try clear c32);(try clear c32b0);(try clear c35);(try clear c36);(try clear c38);(try clear c38b0);(try clear c39);(try clear c40);(try clear c42);(try clear c43);(try clear OY);(try clear OZ);(try clear U0);(try clear U4);(try clear U5);(try clear U6);(try clear Ol);(try clear Om);(try clear On);(try clear qd2);(try clear qd3);(try clear qma);(try clear qmb);(try clear qmc);(try clear qig);(try clear qih);(try clear qii);(try clear qmj);(try clear qmk);(try clear qml);(try clear Ua);(try clear Ub);(try clear Uc);(try clear Ug);(try clear Uh);(try clear Ui);(try clear Ot);(try clear Ou);(try clear Ov);(try clear qee);(try clear qef);(try clear qmM);(try clear qmN);(try clear qmO);(try clear qij);(try clear qik);(try clear qil);(try clear qmV);(try clear qmW);(try clear qmX);(try clear Gi);(try clear Gj);(try clear Gk);(try clear qbR);(try clear qbS);(try clear qbT);(try clear p1);(try clear p10);(try clear qax);(try clear qnr);(try clear p2);(try clear p6);(try clear q1);(try clear q10);(try clear qay);(try clear qny);obtain ⟨kq,qeX,rfl,HA,qbe,Zf,Jj,Zw,HB⟩:=hcut
            cases kq with
            | zero=>exact absurd HA.out (by simp [QS.j3])
            | succ qbg =>
             have H:=HA.out;clear HA;simp only [QS.j3] at H
             by_cases c45:qeX=true
             ·
              subst c45
              have H1:(if a1≤((Ye l0 YH).f1.f1) then (if ((Ye l0 YH).f1.f0)≤a2 then (QS.l1 qbg a1 a2 l0 (l0.length:Int) (wrap64 (YH+1)) (wrap64 (YZ+((Ye l0 YH).f0))) (wrap64 (Z0+((Ye l0 YH).f0)))) else (QS.l1 qbg a1 a2 l0 (l0.length:Int) (wrap64 (YH+1)) (wrap64 (YZ+((Ye l0 YH).f0))) Z0)) else (QS.l1 qbg a1 a2 l0 (l0.length:Int) (wrap64 (YH+1)) (wrap64 (YZ+((Ye l0 YH).f0))) Z0))=some (r1,r2,r3):=by rw [if_pos rfl] at H;exact H
              clear H;have H:=H1;clear H1
              by_cases c46:a1≤((Ye l0 YH).f1.f1)
              ·
               rw [if_pos c46] at H;have c46b0:decide (a1≤((Ye l0 YH).f1.f1))=true:=decide_eq_true c46;clear c46
               by_cases c47:((Ye l0 YH).f1.f0)≤a2
               ·
                rw [if_pos c47] at H;have c47b0:decide (((Ye l0 YH).f1.f0)≤a2)=true:=decide_eq_true c47;clear c47;have H':=Q0.mk H;clear H;have qsH:=UB.out;have qsV:=Ga.out;have qsI:=Jh.out;have qsW:=Gy.out;have qmm:wc.cell? ⟨GU,0,none⟩=some (.int .i64 YZ):=(Q8 Jj.out 0).trans rfl;have qmn:wc.cell? ⟨GU,1,none⟩=some (.int .i64 Z0):=(Q8 Jj.out 1).trans rfl;have qmY:=Q9 Jj.out 0;have qmZ:=Q9 Jj.out 1;have qBy:=Gx.out;have qCa:=Jg.out;have qt5:wc.cell? ⟨Jx,0,none⟩=some (.int .i64 ((Ye l0 YH).f0)):=(Q8 Zw.out 0).trans rfl;have qt6:wc.cell? ⟨Jx,1,none⟩=some (.int .i64 ((Ye l0 YH).f1.f0)):=(Q8 Zw.out 1).trans rfl;have qt7:wc.cell? ⟨Jx,2,none⟩=some (.int .i64 ((Ye l0 YH).f1.f1)):=(Q8 Zw.out 2).trans rfl;have qv7:=Q9 Zw.out 0;have qv8:=Q9 Zw.out 1;have qv9:=Q9 Zw.out 2
                go_wp2
                go_roundg qbg
                case measure=>have:=HK1.out;have:=Kw.out;have:=HK3.out;have:=qbe.out;omega
                case rel=>exact ⟨(wrap64 (YH+1)),(wrap64 (YZ+((Ye l0 YH).f0))),(wrap64 (Z0+((Ye l0 YH).f0))),(by first|rfl|(simp;done)|(simp [*];done)),H',⟨by have:=HK1.out;have:=Kw.out;have:=HK3.out;have:=qbe.out;omega⟩,⟨by (with_reducible repeat (first|refine Q4 ?_ _|refine Q7 ?_|refine Q2 ?_ _));refine Qk ?_ Ga.out _;(with_reducible repeat (first|refine Q4 ?_ _|refine Q7 ?_|refine Q2 ?_ _));refine Qk ?_ Ga.out _;(with_reducible repeat (first|refine Q4 ?_ _|refine Q7 ?_|refine Q2 ?_ _));exact Zf.out⟩,⟨by (with_reducible repeat (first|refine Q4 ?_ _|refine Q7 ?_|refine Q2 ?_ _));refine Qu (cs:=#[.int .i64 (wrap64 (YZ+((Ye l0 YH).f0))),.int .i64 Z0]) ?_ 1 _ rfl;(with_reducible repeat (first|refine Q4 ?_ _|refine Q7 ?_|refine Q2 ?_ _));refine Qu (cs:=#[.int .i64 YZ,.int .i64 Z0]) ?_ 0 _ rfl;(with_reducible repeat (first|refine Q4 ?_ _|refine Q7 ?_|refine Q2 ?_ _));exact Jj.out⟩,⟨by repeat (first|(with_reducible first|exact HB.out|apply Q3|apply Q1|apply Q6|refine Q5 ?_ Js.out|refine Q5 ?_ Ux.out|refine Q5 ?_ qaW.out)|exact HB.out)⟩⟩
               rw [if_neg c47] at H;have c47b0:decide (((Ye l0 YH).f1.f0)≤a2)=false:=decide_eq_false c47;clear c47;have H':=Q0.mk H;clear H;have qBz:=UB.out;have qCb:=Ga.out;have qBA:=Jh.out;have qCc:=Gy.out;have qt8:wc.cell? ⟨GU,0,none⟩=some (.int .i64 YZ):=(Q8 Jj.out 0).trans rfl;have qt9:wc.cell? ⟨GU,1,none⟩=some (.int .i64 Z0):=(Q8 Jj.out 1).trans rfl;have qwa:=Q9 Jj.out 0;have qwb:=Q9 Jj.out 1;have qBB:=Gx.out;have qCd:=Jg.out;have qua:wc.cell? ⟨Jx,0,none⟩=some (.int .i64 ((Ye l0 YH).f0)):=(Q8 Zw.out 0).trans rfl;have qub:wc.cell? ⟨Jx,1,none⟩=some (.int .i64 ((Ye l0 YH).f1.f0)):=(Q8 Zw.out 1).trans rfl;have quc:wc.cell? ⟨Jx,2,none⟩=some (.int .i64 ((Ye l0 YH).f1.f1)):=(Q8 Zw.out 2).trans rfl;have qwc:=Q9 Zw.out 0;have qwd:=Q9 Zw.out 1;have qwe:=Q9 Zw.out 2
               go_wp2
               go_roundg qbg
               case measure=>have:=HK1.out;have:=Kw.out;have:=HK3.out;have:=qbe.out;omega
               case rel=>exact ⟨(wrap64 (YH+1)),(wrap64 (YZ+((Ye l0 YH).f0))),(Z0),(by first|rfl|(simp;done)|(simp [*];done)),H',⟨by have:=HK1.out;have:=Kw.out;have:=HK3.out;have:=qbe.out;omega⟩,⟨by (with_reducible repeat (first|refine Q4 ?_ _|refine Q7 ?_|refine Q2 ?_ _));refine Qk ?_ Ga.out _;(with_reducible repeat (first|refine Q4 ?_ _|refine Q7 ?_|refine Q2 ?_ _));exact Zf.out⟩,⟨by (with_reducible repeat (first|refine Q4 ?_ _|refine Q7 ?_|refine Q2 ?_ _));refine Qu (cs:=#[.int .i64 YZ,.int .i64 Z0]) ?_ 0 _ rfl;(with_reducible repeat (first|refine Q4 ?_ _|refine Q7 ?_|refine Q2 ?_ _));exact Jj.out⟩,⟨by repeat (first|(with_reducible first|exact HB.out|apply Q3|apply Q1|apply Q6|refine Q5 ?_ Js.out|refine Q5 ?_ Ux.out|refine Q5 ?_ qaW.out)|exact HB.out)⟩⟩
              rw [if_neg c46] at H;have c46b0:decide (a1≤((Ye l0 YH).f1.f1))=false:=decide_eq_false c46;clear c46;have H':=Q0.mk H;clear H;have qsJ:=UB.out;have qsX:=Ga.out;have qsK:=Jh.out;have qsY:=Gy.out;have qud:wc.cell? ⟨GU,0,none⟩=some (.int .i64 YZ):=(Q8 Jj.out 0).trans rfl;have que:wc.cell? ⟨GU,1,none⟩=some (.int .i64 Z0):=(Q8 Jj.out 1).trans rfl;have qwf:=Q9 Jj.out 0;have qwg:=Q9 Jj.out 1;have qBD:=Gx.out;have qCf:=Jg.out;have qug:wc.cell? ⟨Jx,0,none⟩=some (.int .i64 ((Ye l0 YH).f0)):=(Q8 Zw.out 0).trans rfl;have quh:wc.cell? ⟨Jx,1,none⟩=some (.int .i64 ((Ye l0 YH).f1.f0)):=(Q8 Zw.out 1).trans rfl;have qui:wc.cell? ⟨Jx,2,none⟩=some (.int .i64 ((Ye l0 YH).f1.f1)):=(Q8 Zw.out 2).trans rfl;have qwi:=Q9 Zw.out 0;have qwj:=Q9 Zw.out 1;have qwk:=Q9 Zw.out 2
              go_wp2
              go_roundg qbg
              case measure=>have:=HK1.out;have:=Kw.out;have:=HK3.out;have:=qbe.out;omega
              case rel=>exact ⟨(wrap64 (YH+1)),(wrap64 (YZ+((Ye l0 YH).f0))),(Z0),(by first|rfl|(simp;done)|(simp [*];done)),H',⟨by have:=HK1.out;have:=Kw.out;have:=HK3.out;have:=qbe.out;omega⟩,⟨by (with_reducible repeat (first|refine Q4 ?_ _|refine Q7 ?_|refine Q2 ?_ _));refine Qk ?_ Ga.out _;(with_reducible repeat (first|refine Q4 ?_ _|refine Q7 ?_|refine Q2 ?_ _));exact Zf.out⟩,⟨by (with_reducible repeat (first|refine Q4 ?_ _|refine Q7 ?_|refine Q2 ?_ _));refine Qu (cs:=#[.int .i64 YZ,.int .i64 Z0]) ?_ 0 _ rfl;(with_reducible repeat (first|refine Q4 ?_ _|refine Q7 ?_|refine Q2 ?_ _));exact Jj.out⟩,⟨by repeat (first|(with_reducible first|exact HB.out|apply Q3|apply Q1|apply Q6|refine Q5 ?_ Js.out|refine Q5 ?_ Ux.out|refine Q5 ?_ qaW.out)|exact HB.out)⟩⟩
             replace c45:=Bool.eq_false_iff.mpr c45;subst c45
             have H1:(if a1≤((Ye l0 YH).f1.f1) then (if ((Ye l0 YH).f1.f0)≤a2 then (QS.l1 qbg a1 a2 l0 (l0.length:Int) (wrap64 (YH+1)) YZ (wrap64 (Z0+((Ye l0 YH).f0)))) else (QS.l1 qbg a1 a2 l0 (l0.length:Int) (wrap64 (YH+1)) YZ Z0)) else (QS.l1 qbg a1 a2 l0 (l0.length:Int) (wrap64 (YH+1)) YZ Z0))=some (r1,r2,r3):=by rw [if_neg (show ¬ (false=true) by decide)] at H;exact H
             clear H;have H:=H1;clear H1
             by_cases c63:a1≤((Ye l0 YH).f1.f1)
             ·
              rw [if_pos c63] at H;have c63b0:decide (a1≤((Ye l0 YH).f1.f1))=true:=decide_eq_true c63;clear c63
              by_cases c64:((Ye l0 YH).f1.f0)≤a2
              ·
               rw [if_pos c64] at H;have c64b0:decide (((Ye l0 YH).f1.f0)≤a2)=true:=decide_eq_true c64;clear c64;have H':=Q0.mk H;clear H;have qsL:=Gx.out;have qsZ:=Jg.out;have qBG:=Gy.out;have qCi:=Jh.out;have quv:wc.cell? ⟨Jx,0,none⟩=some (.int .i64 ((Ye l0 YH).f0)):=(Q8 Zw.out 0).trans rfl;have quw:wc.cell? ⟨Jx,1,none⟩=some (.int .i64 ((Ye l0 YH).f1.f0)):=(Q8 Zw.out 1).trans rfl;have qux:wc.cell? ⟨Jx,2,none⟩=some (.int .i64 ((Ye l0 YH).f1.f1)):=(Q8 Zw.out 2).trans rfl;have qww:=Q9 Zw.out 0;have qwx:=Q9 Zw.out 1;have qwy:=Q9 Zw.out 2;have qBH:=UB.out;have qCj:=Ga.out;have quy:wc.cell? ⟨GU,0,none⟩=some (.int .i64 YZ):=(Q8 Jj.out 0).trans rfl;have quz:wc.cell? ⟨GU,1,none⟩=some (.int .i64 Z0):=(Q8 Jj.out 1).trans rfl;have qwz:=Q9 Jj.out 0;have qwA:=Q9 Jj.out 1
               go_wp2
               go_roundg qbg
               case measure=>have:=HK1.out;have:=Kw.out;have:=HK3.out;have:=qbe.out;omega
               case rel=>exact ⟨(wrap64 (YH+1)),(YZ),(wrap64 (Z0+((Ye l0 YH).f0))),(by first|rfl|(simp;done)|(simp [*];done)),H',⟨by have:=HK1.out;have:=Kw.out;have:=HK3.out;have:=qbe.out;omega⟩,⟨by (with_reducible repeat (first|refine Q4 ?_ _|refine Q7 ?_|refine Q2 ?_ _));refine Qk ?_ Ga.out _;(with_reducible repeat (first|refine Q4 ?_ _|refine Q7 ?_|refine Q2 ?_ _));exact Zf.out⟩,⟨by (with_reducible repeat (first|refine Q4 ?_ _|refine Q7 ?_|refine Q2 ?_ _));refine Qu (cs:=#[.int .i64 YZ,.int .i64 Z0]) ?_ 1 _ rfl;(with_reducible repeat (first|refine Q4 ?_ _|refine Q7 ?_|refine Q2 ?_ _));exact Jj.out⟩,⟨by repeat (first|(with_reducible first|exact HB.out|apply Q3|apply Q1|apply Q6|refine Q5 ?_ Js.out|refine Q5 ?_ Ux.out|refine Q5 ?_ qaW.out)|exact HB.out)⟩⟩
              rw [if_neg c64] at H;have c64b0:decide (((Ye l0 YH).f1.f0)≤a2)=false:=decide_eq_false c64;clear c64;have H':=Q0.mk H;clear H;have qsM:=Gx.out;have qs0:=Jg.out;have qsN:=Gy.out;have qs1:=Jh.out;have quA:wc.cell? ⟨Jx,0,none⟩=some (.int .i64 ((Ye l0 YH).f0)):=(Q8 Zw.out 0).trans rfl;have quB:wc.cell? ⟨Jx,1,none⟩=some (.int .i64 ((Ye l0 YH).f1.f0)):=(Q8 Zw.out 1).trans rfl;have quC:wc.cell? ⟨Jx,2,none⟩=some (.int .i64 ((Ye l0 YH).f1.f1)):=(Q8 Zw.out 2).trans rfl;have qwB:=Q9 Zw.out 0;have qwC:=Q9 Zw.out 1;have qwD:=Q9 Zw.out 2
              go_wp2
              go_roundg qbg
              case measure=>have:=HK1.out;have:=Kw.out;have:=HK3.out;have:=qbe.out;omega
              case rel=>exact ⟨(wrap64 (YH+1)),(YZ),(Z0),(by first|rfl|(simp;done)|(simp [*];done)),H',⟨by have:=HK1.out;have:=Kw.out;have:=HK3.out;have:=qbe.out;omega⟩,⟨by (with_reducible repeat (first|refine Q4 ?_ _|refine Q7 ?_|refine Q2 ?_ _));exact Zf.out⟩,⟨by (with_reducible repeat (first|refine Q4 ?_ _|refine Q7 ?_|refine Q2 ?_ _));exact Jj.out⟩,⟨by repeat (first|(with_reducible first|exact HB.out|apply Q3|apply Q1|apply Q6|refine Q5 ?_ Js.out|refine Q5 ?_ Ux.out|refine Q5 ?_ qaW.out)|exact HB.out)⟩⟩
             rw [if_neg c63] at H;have c63b0:decide (a1≤((Ye l0 YH).f1.f1))=false:=decide_eq_false c63;clear c63;have H':=Q0.mk H;clear H;have qBK:=Gx.out;have qCm:=Jg.out;have qBL:=Gy.out;have qCn:=Jh.out;have qmo:wc.cell? ⟨Jx,0,none⟩=some (.int .i64 ((Ye l0 YH).f0)):=(Q8 Zw.out 0).trans rfl;have qmp:wc.cell? ⟨Jx,1,none⟩=some (.int .i64 ((Ye l0 YH).f1.f0)):=(Q8 Zw.out 1).trans rfl;have qmq:wc.cell? ⟨Jx,2,none⟩=some (.int .i64 ((Ye l0 YH).f1.f1)):=(Q8 Zw.out 2).trans rfl;have qm0:=Q9 Zw.out 0;have qm1:=Q9 Zw.out 1;have qm2:=Q9 Zw.out 2
             go_wp2
             go_roundg qbg
             case measure=>have:=HK1.out;have:=Kw.out;have:=HK3.out;have:=qbe.out;omega
             case rel=>exact ⟨(wrap64 (YH+1)),(YZ),(Z0),(by first|rfl|(simp;done)|(simp [*];done)),H',⟨by have:=HK1.out;have:=Kw.out;have:=HK3.out;have:=qbe.out;omega⟩,⟨by (with_reducible repeat (first|refine Q4 ?_ _|refine Q7 ?_|refine Q2 ?_ _));exact Zf.out⟩,⟨by (with_reducible repeat (first|refine Q4 ?_ _|refine Q7 ?_|refine Q2 ?_ _));exact Jj.out⟩,⟨by repeat (first|(with_reducible first|exact HB.out|apply Q3|apply Q1|apply Q6|refine Q5 ?_ Js.out|refine Q5 ?_ Ux.out|refine Q5 ?_ qaW.out)|exact HB.out)⟩⟩
          rw [if_neg c32] at H
          exact absurd H (by simp)
         rw [if_neg c31] at H
         exact absurd H (by simp)
        rw [if_neg c30] at H;have c30b0:decide (YH<(l0.length:Int))=false:=decide_eq_false c30;clear c30;simp only [Option.some.injEq,Prod.mk.injEq] at H;obtain ⟨rfl,rfl,rfl⟩:=H;have qBM:=UB.out;have qCo:=Ga.out;have qmr:wr.cell? ⟨GU,0,none⟩=some (.int .i64 YZ):=(Q8 Jj.out 0).trans rfl;have quR:wr.cell? ⟨GU,1,none⟩=some (.int .i64 Z0):=(Q8 Jj.out 1).trans rfl;have qm3:=Q9 Jj.out 0;have qwS:=Q9 Jj.out 1;have quS:wr.cell? ⟨J3,0,none⟩=some (.int .i64 0):=(Q8 Zf.out 0).trans rfl;have quT:wr.cell? ⟨J3,1,none⟩=some (.int .i64 0):=(Q8 Zf.out 1).trans rfl;have qwT:=Q9 Zf.out 0;have qwU:=Q9 Zf.out 1
        go_wp2
        refine bodyPost_ret (Xv rfl _ _ J3 25 #[.int .i64 YZ,.int .i64 Z0] (0,0) _ rfl (by (with_reducible repeat (first|refine Q4 ?_ _|refine Q7 ?_|refine Q2 ?_ _));refine Qu (cs:=#[.int .i64 YZ,.int .i64 0]) ?_ 1 _ rfl;(with_reducible repeat (first|refine Q4 ?_ _|refine Q7 ?_|refine Q2 ?_ _));refine Qu (cs:=#[.int .i64 0,.int .i64 0]) ?_ 0 _ rfl;(with_reducible repeat (first|refine Q4 ?_ _|refine Q7 ?_|refine Q2 ?_ _));exact Zf.out) Try.underlying25 rfl (by kernel_rfl)) rfl ?_
        exact ⟨by first|rfl|(simp [Qq,Qr]<;>rfl)|(simp [*,Qq,Qr]<;>rfl),by repeat (first|(with_reducible first|exact HB.out|apply Q3|apply Q1|apply Q6|refine Q5 ?_ Js.out|refine Q5 ?_ Ux.out)|exact HB.out)⟩
   replace c22:=Bool.eq_false_iff.mpr c22
   subst c22
   have H1:(some (0,0,90))=some (r1,r2,r3):=by rw [if_neg (show ¬ (false=true) by decide)] at H;exact H
   clear H
   have H:=H1
   clear H1
   simp only [Option.some.injEq,Prod.mk.injEq] at H
   obtain ⟨rfl,rfl,rfl⟩:=H
   have quU:wr.cell? ⟨J3,0,none⟩=some (.int .i64 0):=(Q8 Zf.out 0).trans rfl
   have quV:wr.cell? ⟨J3,1,none⟩=some (.int .i64 0):=(Q8 Zf.out 1).trans rfl
   have qwV:=Q9 Zf.out 0
   have qwW:=Q9 Zf.out 1
   go_wp2
   refine bodyPost_ret (Xv rfl _ _ J3 25 #[.int .i64 0,.int .i64 0] (0,0) _ rfl (by (with_reducible repeat (first|refine Q4 ?_ _|refine Q7 ?_|refine Q2 ?_ _));refine Qu (cs:=#[.int .i64 0,.int .i64 0]) ?_ 1 _ rfl;(with_reducible repeat (first|refine Q4 ?_ _|refine Q7 ?_|refine Q2 ?_ _));refine Qu (cs:=#[.int .i64 0,.int .i64 0]) ?_ 0 _ rfl;(with_reducible repeat (first|refine Q4 ?_ _|refine Q7 ?_|refine Q2 ?_ _));exact Zf.out) Try.underlying25 rfl (by kernel_rfl)) rfl ?_
   exact ⟨by first|rfl|(simp [Qq,Qr]<;>rfl)|(simp [*,Qq,Qr]<;>rfl),by repeat (first|(with_reducible first|exact HB.out|apply Q3|apply Q1|apply Q6|refine Q5 ?_ Js.out)|exact HB.out)⟩
end
section
attribute [local go_sem] Yn Yp YA YC Yb Yc Yo Yq
theorem qkp (d:Nat) (w:World) (x0 y0:Int) (x1 y1:Int) :
  (Op.equalIn (d+2) 25 (.agg #[.int .i64 x0,.int .i64 x1]) (.agg #[.int .i64 y0,.int .i64 y1])).run Try.prog w = .ok (x0==y0&&(x1==y1)) w:=by
 refine qkq Try.underlying25 (by kernel_rfl) ?_
 refine qkr (by rfl) (by go_simp;rfl) (by go_simp;rfl) (by go_simp) ?_
 exact qfl (by rfl) (by go_simp;rfl) (by go_simp;rfl) (by go_simp)
end
section
attribute [local go_sem] Yn Yp YA YC Yb Yc Yo Yq
attribute [local go_sem high] qkp
def YV.l0:Nat→List (S25)→List (S25)→Int→Option (Bool)
 | 0,_,_,_=>none
 | k+1,x0,x1,x5=>if x5<(x0.length:Int) then (if 0≤x5 then (if x5<(x1.length:Int) then (if (!(((YM x0 x5).f0)==((YM x1 x5).f0))||(!(((YM x0 x5).f1)==((YM x1 x5).f1))))=true then (some false) else (YV.l0 k x0 x1 (wrap64 (x5+1)))) else (none)) else (none)) else (some true)
def YV.f (k:Nat) (l0:List (S25)) (l1:List (S25)):Option (Bool):=if (l0.length:Int)=(l1.length:Int) then (YV.l0 k l0 l1 0) else (some false)
set_option maxHeartbeats 8000000 in
set_option maxRecDepth 100000 in
theorem YV.calls (k:Nat) (A0:Option Addr) (c0:Nat) (l0:List (S25)) (A1:Option Addr) (c1:Nat) (l1:List (S25)) (r:Bool) (w:World) (hr0:Kd.C k25 w A0 l0.length l0) (hc0:l0.length≤c0) (hr1:Kd.C k25 w A1 l1.length l1) (hc1:l1.length≤c1) (h:YV.f k l0 l1=some r) :
  Calls Try.prog 24 #[.slice A0 l0.length c0,.slice A1 l1.length c1] w fun e w'=>e = .returned (.bool r)∧Yg w w':=by
 have qbf:=Try.underlying25
 have HR0:=Q0.mk hr0
 have HC0:=Q0.mk hc0
 clear hr0 hc0
 have HR1:=Q0.mk hr1
 have HC1:=Q0.mk hc1
 clear hr1 hc1
 have H:(if (l0.length:Int)=(l1.length:Int) then (YV.l0 k l0 l1 0) else (some false))=some r:=h
 clear h
 by_cases c3:(l0.length:Int)=(l1.length:Int)
 ·
  rw [if_pos c3] at H
  have c3b0:((l0.length:Int)==(l1.length:Int))=true:=beq_iff_eq.mpr c3
  have c3b1:((l0.length:Int) != (l1.length:Int))=false:=bne_eq_false_iff_eq.mpr c3
  have c3b2:(l0.length==l1.length)=true:=by first|simpa using c3|(simp at c3 ⊢;omega)
  clear c3
  have H':=Q0.mk H
  clear H
  go_enter Try.func24,Try.ntmps24
  go_wp2
  repeat (go_quiet (fail);try go_wp2)
  go_loopg [5] k (fun kq v5 w' => ∃ (Y8:Int),v5 = .int .i64 Y8∧Q0 (YV.l0 kq l0 l1 Y8=some r)∧Q0 (kq≤k)∧Yg w w')
  case atStart=>exact ⟨(0),(by first|rfl|(simp;done)|(simp [*];done)),H',⟨Nat.le_refl _⟩,by repeat (first|exact Yg.refl _|apply Yg.step)⟩
  case round =>
   clear H'
   try clear c1
   try clear c2
   try clear p2
   try clear c3
   try clear c3b0
   try clear c3b1
   try clear c3b2
   obtain ⟨Y8,rfl,HA,HK1,⟨m1,rfl⟩⟩:=hrel
   cases gk with
   | zero=>exact absurd HA.out (by simp [YV.l0])
   | succ k1 =>
    have H:=HA.out;clear HA;simp only [YV.l0] at H
    by_cases c4:Y8<(l0.length:Int)
    ·
     rw [if_pos c4] at H;have c4b0:decide (Y8<(l0.length:Int))=true:=decide_eq_true c4;clear c4
     by_cases c5:0≤Y8
     ·
      rw [if_pos c5] at H;have c5b0:decide (0≤Y8)=true:=decide_eq_true c5;clear c5
      by_cases c6:Y8<(l1.length:Int)
      ·
       rw [if_pos c6] at H;have c6b0:decide (Y8<(l1.length:Int))=true:=decide_eq_true c6;clear c6
       by_cases c7:(!(((YM l0 Y8).f0)==((YM l1 Y8).f0))||(!(((YM l0 Y8).f1)==((YM l1 Y8).f1))))=true
       ·
        rw [if_pos c7] at H;have c7b0:(!(((YM l0 Y8).f0)==((YM l1 Y8).f0))||(!(((YM l0 Y8).f1)==((YM l1 Y8).f1))))=true:=c7;clear c7;obtain rfl:=Option.some.inj H;have qhe:0≤(Y8:Int):=of_decide_eq_true (by first|(with_reducible assumption)|assumption);have qhr:Y8<(l0.length:Int):=of_decide_eq_true (by first|(with_reducible assumption)|assumption);obtain ⟨qqU,qpl,qm6,qm7⟩:=UT HR0.out Y8 qhe qhr;cases qpl;replace qhe:=eq_true qhe;replace qhr:=eq_true qhr;have qhf:0≤(Y8:Int):=of_decide_eq_true (by first|(with_reducible assumption)|assumption);have qhs:Y8<(l1.length:Int):=of_decide_eq_true (by first|(with_reducible assumption)|assumption);obtain ⟨qqV,e143,qm8,qm9⟩:=UT HR1.out Y8 qhf qhs;cases e143;replace qhf:=eq_true qhf;replace qhs:=eq_true qhs
        go_wp2
        repeat (go_quiet (fail);try go_wp2)
        go_ret
        exact ⟨by first|rfl|(simp;done)|(simp [*];done),by repeat (first|exact Yg.refl _|apply Yg.step)⟩
       rw [if_neg c7] at H
       have c7b0:(!(((YM l0 Y8).f0)==((YM l1 Y8).f0))||(!(((YM l0 Y8).f1)==((YM l1 Y8).f1))))=false:=by simpa using c7
       clear c7;have H':=Q0.mk H;clear H;have qhe:0≤(Y8:Int):=of_decide_eq_true (by first|(with_reducible assumption)|assumption);have qhr:Y8<(l0.length:Int):=of_decide_eq_true (by first|(with_reducible assumption)|assumption);obtain ⟨qqU,qpl,qm6,qm7⟩:=UT HR0.out Y8 qhe qhr;cases qpl;replace qhe:=eq_true qhe;replace qhr:=eq_true qhr;have qhf:0≤(Y8:Int):=of_decide_eq_true (by first|(with_reducible assumption)|assumption);have qhs:Y8<(l1.length:Int):=of_decide_eq_true (by first|(with_reducible assumption)|assumption);obtain ⟨qqV,e143,qm8,qm9⟩:=UT HR1.out Y8 qhf qhs;cases e143;replace qhf:=eq_true qhf;replace qhs:=eq_true qhs
       go_wp2
       repeat (go_quiet (fail);try go_wp2)
       go_roundg k1
       case measure=>have:=HK1.out;omega
       case rel=>exact ⟨(wrap64 (Y8+1)),(by first|rfl|(simp;done)|(simp [*];done)),H',⟨by have:=HK1.out;omega⟩,by repeat (first|exact Yg.refl _|apply Yg.step)⟩
      rw [if_neg c6] at H
      exact absurd H (by simp)
     rw [if_neg c5] at H
     exact absurd H (by simp)
    rw [if_neg c4] at H;have c4b0:decide (Y8<(l0.length:Int))=false:=decide_eq_false c4;clear c4;obtain rfl:=Option.some.inj H
    go_wp2
    repeat (go_quiet (fail);try go_wp2)
    go_ret
    exact ⟨by first|rfl|(simp;done)|(simp [*];done),by repeat (first|exact Yg.refl _|apply Yg.step)⟩
 rw [if_neg c3] at H
 have c3b0:((l0.length:Int)==(l1.length:Int))=false:=beq_eq_false_iff_ne.mpr c3
 have c3b1:((l0.length:Int) != (l1.length:Int))=true:=bne_iff_ne.mpr c3
 have c3b2:(l0.length==l1.length)=false:=by first|simpa using c3|(simp at c3 ⊢;omega)
 obtain rfl:=Option.some.inj H
 go_enter Try.func24,Try.ntmps24
 go_wp2
 repeat (go_quiet (fail);try go_wp2)
 go_ret
 exact ⟨by first|rfl|(simp;done)|(simp [*];done),by repeat (first|exact Yg.refl _|apply Yg.step)⟩
end
section
attribute [local go_sem] Yn Yp YA YC Yb Yc Yo Yq
mutual
def Ql.j0:Nat→Int→Bool→List Int→List Int→List Int→Int→Int→Option (Bool)
 | 0,_,_,_,_,_,_,_=>none
 | k+1,x3,x4,O1,O2,O3,Uo,Up=>Ql.l0 k x3 x4 0 O1 O2 O3 Uo Up
def Ql.l0:Nat→Int→Bool→Int→List Int→List Int→List Int→Int→Int→Option (Bool)
 | 0,_,_,_,_,_,_,_,_=>none
 | k+1,x3,x4,x5,O1,O2,O3,Uo,Up=>if x4=true then (Ql.j2 k x3 x4 x5 (decide (x5<x3)) O1 O2 O3 Uo Up) else (Ql.j2 k x3 x4 x5 false O1 O2 O3 Uo Up)
def Ql.j2:Nat→Int→Bool→Int→Bool→List Int→List Int→List Int→Int→Int→Option (Bool)
 | 0,_,_,_,_,_,_,_,_,_=>none
 | k+1,x3,x4,x5,x47,O1,O2,O3,Uo,Up=>if x47=true then (if 0≤x5 then (if x5<(O1.length:Int) then ((Qj.f (rd O1 x5) 0 100000).bind fun qjt=>(if qjt=true then (if x5<(O2.length:Int) then ((Qj.f (rd O2 x5) 0 1000).bind fun qc9=>(if qc9=true then (if x5<(O3.length:Int) then ((Qj.f (rd O3 x5) 0 100).bind fun Xy=>(Ql.l0 k x3 Xy (wrap64 (x5+1)) O1 O2 O3 Uo Up)) else (none)) else (Ql.l0 k x3 false (wrap64 (x5+1)) O1 O2 O3 Uo Up))) else (none)) else (Ql.l0 k x3 false (wrap64 (x5+1)) O1 O2 O3 Uo Up))) else (none)) else (none)) else (some x4)
end
def Ql.f (k:Nat) (Qb:List Int) (Qh:List Int) (Qd:List Int) (Yd:Int) (Ya:Int):Option (Bool):=(Qj.f (Qb.length:Int) 1 6).bind fun t145=>(if t145=true then (if (Qh.length:Int)=(Qb.length:Int) then (if (Qd.length:Int)=(Qb.length:Int) then ((Qj.f Yd 0 100000000).bind fun t146=>(if t146=true then ((Qj.f Ya 0 (wrap64 ((Qb.length:Int)-1))).bind fun Xx=>(Ql.j0 k (Qb.length:Int) Xx Qb Qh Qd Yd Ya)) else (Ql.j0 k (Qb.length:Int) false Qb Qh Qd Yd Ya))) else (Ql.j0 k (Qb.length:Int) false Qb Qh Qd Yd Ya)) else (Ql.j0 k (Qb.length:Int) false Qb Qh Qd Yd Ya)) else (Ql.j0 k (Qb.length:Int) false Qb Qh Qd Yd Ya))
set_option maxHeartbeats 8000000 in
set_option maxRecDepth 100000 in
theorem Ql.calls (k:Nat) (Y3:Option Addr) (QG:Nat) (Qb:List Int) (Y1:Option Addr) (QI:Nat) (Qh:List Int) (Y5:Option Addr) (QJ:Nat) (Qd:List Int) (Yd:Int) (Ya:Int) (r:Bool) (w:World) (Gr:Kd.C (Kd.int .i64) w Y3 Qb.length Qb) (GI:Qb.length≤QG) (Gs:Kd.C (Kd.int .i64) w Y1 Qh.length Qh) (GJ:Qh.length≤QI) (Gt:Kd.C (Kd.int .i64) w Y5 Qd.length Qd) (GK:Qd.length≤QJ) (h:Ql.f k Qb Qh Qd Yd Ya=some r) :
  Calls Try.prog 76 #[.agg #[.slice Y3 Qb.length QG,.slice Y1 Qh.length QI,.slice Y5 Qd.length QJ,.int .i64 Yd,.int .i64 Ya]] w fun e w'=>e = .returned (.bool r)∧Below w.heap.size w w':=by
 have qkQ:=Try.underlying111
 have Jt:=Q0.mk Gr
 have JO:=Q0.mk GI
 clear Gr GI
 have JD:=Q0.mk Gs
 have JP:=Q0.mk GJ
 clear Gs GJ
 have JE:=Q0.mk Gt
 have JQ:=Q0.mk GK
 clear Gt GK
 have HB:=Q0.mk (Below.refl w.heap.size w)
 have H:((Qj.f (Qb.length:Int) 1 6).bind fun t145=>(if t145=true then (if (Qh.length:Int)=(Qb.length:Int) then (if (Qd.length:Int)=(Qb.length:Int) then ((Qj.f Yd 0 100000000).bind fun t146=>(if t146=true then ((Qj.f Ya 0 (wrap64 ((Qb.length:Int)-1))).bind fun Xx=>(Ql.j0 k (Qb.length:Int) Xx Qb Qh Qd Yd Ya)) else (Ql.j0 k (Qb.length:Int) false Qb Qh Qd Yd Ya))) else (Ql.j0 k (Qb.length:Int) false Qb Qh Qd Yd Ya)) else (Ql.j0 k (Qb.length:Int) false Qb Qh Qd Yd Ya)) else (Ql.j0 k (Qb.length:Int) false Qb Qh Qd Yd Ya)))=some r:=h
 clear h
 have HC2:=Q0.mk H
 clear H
 go_enter Try.func76,Try.ntmps76
 go_upto_region 2 with (first|((with_reducible refine QW (N:=1) rfl ?_);(try (refine Gq (by rfl) ?_;dsimp only));refine Yw ?hg (N:=1) ?hd (cs:=#[.slice Y3 Qb.length QG,.slice Y1 Qh.length QI,.slice Y5 Qd.length QJ,.int .i64 Yd,.int .i64 Ya]) (t:=111) ?hr ?_;(case hd=>rfl);(case hg=>rfl);(case hr=>first|(go_simp;done)|(go_simp;rfl));intro ZX hg w3 hbox hb;have n0_:=Q0.mk (Qm (by repeat (first|(with_reducible first|exact HB.out|apply Q3|apply Q1|apply Q6)|exact HB.out)) hb);have n1_:=Q0.mk (hbox);have n2_:=Q0.mk ((by rw [hg];exact (Qf (by repeat (first|(with_reducible first|exact HB.out|apply Q3|apply Q1|apply Q6)|exact HB.out))):w.heap.size≤ZX));have n3_:=n2_;clear HB;have HB:=n0_;have Yx:=n1_;have qAE:=n2_;have Wg:=n3_;clear n0_ n1_ n2_ n3_ hb hbox hg;have GL:w3.cell? ⟨ZX,0,none⟩=some (.slice Y3 Qb.length QG):=(Q8 Yx.out 0).trans rfl;have GM:w3.cell? ⟨ZX,1,none⟩=some (.slice Y1 Qh.length QI):=(Q8 Yx.out 1).trans rfl;have Ki:w3.cell? ⟨ZX,2,none⟩=some (.slice Y5 Qd.length QJ):=(Q8 Yx.out 2).trans rfl;have qgW:w3.cell? ⟨ZX,3,none⟩=some (.int .i64 Yd):=(Q8 Yx.out 3).trans rfl;have qgX:w3.cell? ⟨ZX,4,none⟩=some (.int .i64 Ya):=(Q8 Yx.out 4).trans rfl;have GN:=Q9 Yx.out 0;have GQ:=Q9 Yx.out 1;have Km:=Q9 Yx.out 2;have qgY:=Q9 Yx.out 3;have qgZ:=Q9 Yx.out 4))
 (try simp only [Act.put,List.setIfInBounds_toArray,List.set_cons_zero,List.set_cons_succ])
 go_cut [4] (fun v4 wc => ∃ (kq:Nat) (qaH:Bool),v4 = .bool qaH∧Q0 (Ql.j0 kq (Qb.length:Int) qaH Qb Qh Qd Yd Ya=some r)∧Q0 (kq≤k)∧Q0 (wc.heap[ZX]? = some (.cells #[(.slice Y3 Qb.length QG),(.slice Y1 Qh.length QI),(.slice Y5 Qd.length QJ),.int .i64 Yd,.int .i64 Ya] 111 (0,0)))∧Q0 (Below w.heap.size w wc))
 case first =>
  have H:=HC2.out
  clear HC2
  replace H:=Option.bind_eq_some_iff.mp H
  obtain ⟨t145,A50,H⟩:=H
  replace H:(if t145=true then (if (Qh.length:Int)=(Qb.length:Int) then (if (Qd.length:Int)=(Qb.length:Int) then ((Qj.f Yd 0 100000000).bind fun t146=>(if t146=true then ((Qj.f Ya 0 (wrap64 ((Qb.length:Int)-1))).bind fun Xx=>(Ql.j0 k (Qb.length:Int) Xx Qb Qh Qd Yd Ya)) else (Ql.j0 k (Qb.length:Int) false Qb Qh Qd Yd Ya))) else (Ql.j0 k (Qb.length:Int) false Qb Qh Qd Yd Ya)) else (Ql.j0 k (Qb.length:Int) false Qb Qh Qd Yd Ya)) else (Ql.j0 k (Qb.length:Int) false Qb Qh Qd Yd Ya))=some r:=H
  have A5:=Q0.mk A50
  clear A50
  by_cases c6:t145=true
  ·
   subst c6
   have H1:(if (Qh.length:Int)=(Qb.length:Int) then (if (Qd.length:Int)=(Qb.length:Int) then ((Qj.f Yd 0 100000000).bind fun t146=>(if t146=true then ((Qj.f Ya 0 (wrap64 ((Qb.length:Int)-1))).bind fun Xx=>(Ql.j0 k (Qb.length:Int) Xx Qb Qh Qd Yd Ya)) else (Ql.j0 k (Qb.length:Int) false Qb Qh Qd Yd Ya))) else (Ql.j0 k (Qb.length:Int) false Qb Qh Qd Yd Ya)) else (Ql.j0 k (Qb.length:Int) false Qb Qh Qd Yd Ya))=some r:=by rw [if_pos rfl] at H;exact H
   clear H
   have H:=H1
   clear H1
   by_cases c7:(Qh.length:Int)=(Qb.length:Int)
   ·
    rw [if_pos c7] at H;have c7b0:((Qh.length:Int)==(Qb.length:Int))=true:=beq_iff_eq.mpr c7;have c7b1:((Qh.length:Int) != (Qb.length:Int))=false:=bne_eq_false_iff_eq.mpr c7
    have c7b2:(Qh.length==Qb.length)=true:=by first|simpa using c7|(simp at c7 ⊢;omega)
    clear c7
    (first|rw [c7b0]|(simp only [Yj,Yu];rw [c7b0])|skip)
    by_cases c8:(Qd.length:Int)=(Qb.length:Int)
    ·
     rw [if_pos c8] at H;have c8b0:((Qd.length:Int)==(Qb.length:Int))=true:=beq_iff_eq.mpr c8;have c8b1:((Qd.length:Int) != (Qb.length:Int))=false:=bne_eq_false_iff_eq.mpr c8
     have c8b2:(Qd.length==Qb.length)=true:=by first|simpa using c8|(simp at c8 ⊢;omega)
     clear c8;replace H:=Option.bind_eq_some_iff.mp H;obtain ⟨t146,A90,H⟩:=H;replace H:(if t146=true then ((Qj.f Ya 0 (wrap64 ((Qb.length:Int)-1))).bind fun Xx=>(Ql.j0 k (Qb.length:Int) Xx Qb Qh Qd Yd Ya)) else (Ql.j0 k (Qb.length:Int) false Qb Qh Qd Yd Ya))=some r:=H;have A9:=Q0.mk A90;clear A90
     by_cases c10:t146=true
     ·
      subst c10
      have H1:((Qj.f Ya 0 (wrap64 ((Qb.length:Int)-1))).bind fun Xx=>(Ql.j0 k (Qb.length:Int) Xx Qb Qh Qd Yd Ya))=some r:=by rw [if_pos rfl] at H;exact H
      clear H;have H:=H1;clear H1;replace H:=Option.bind_eq_some_iff.mp H;obtain ⟨Xx,qjF,H⟩:=H;replace H:(Ql.j0 k (Qb.length:Int) Xx Qb Qh Qd Yd Ya)=some r:=H;have A11:=Q0.mk qjF;clear qjF;have H':=Q0.mk H;clear H
      go_wp2_with (first|((with_reducible refine Qx (f:=65) rfl ?_);refine YL (some 11) rfl rfl Try.func65 (by kernel_rfl) rfl #[.int .i64 (Qb.length:Int),.int .i64 1,.int .i64 6] rfl (by (try simp only [List.map_toArray,List.map_cons,List.map_nil]);first|done|rfl|(simp only [List.length_drop,List.length_take];rfl)) ?_;(with_reducible refine (Qj.calls (Qb.length:Int) 1 6 true _ A5.out).mono ?_);rintro e w' ⟨rfl,⟨nd,rfl⟩⟩;refine ⟨_,rfl,?_⟩;have XM:w3.cell? ⟨ZX,0,none⟩=some (.slice Y3 Qb.length QG):=(Q8 Yx.out 0).trans rfl;have XN:w3.cell? ⟨ZX,1,none⟩=some (.slice Y1 Qh.length QI):=(Q8 Yx.out 1).trans rfl;have qbq:w3.cell? ⟨ZX,2,none⟩=some (.slice Y5 Qd.length QJ):=(Q8 Yx.out 2).trans rfl;have qdW:w3.cell? ⟨ZX,3,none⟩=some (.int .i64 Yd):=(Q8 Yx.out 3).trans rfl;have qdX:w3.cell? ⟨ZX,4,none⟩=some (.int .i64 Ya):=(Q8 Yx.out 4).trans rfl;have XX:=Q9 Yx.out 0;have XY:=Q9 Yx.out 1;have qbB:=Q9 Yx.out 2;have qd8:=Q9 Yx.out 3;have qd9:=Q9 Yx.out 4)|(go_at_call 65;(with_reducible refine (Qj.calls Yd 0 100000000 true _ A9.out).mono ?_);rintro e w' ⟨rfl,⟨nd,rfl⟩⟩)|(go_at_call 65;(with_reducible refine (Qj.calls Ya 0 (wrap64 ((Qb.length:Int)-1)) Xx _ A11.out).mono ?_);rintro e w' ⟨rfl,⟨nd,rfl⟩⟩))
      go_meet
      case rel=>exact ⟨_,(Xx),(by first|rfl|(simp;done)|(simp [*];done)),H',⟨by first|omega|exact Nat.le_refl _⟩,⟨by (with_reducible repeat (first|refine Q4 ?_ _|refine Q7 ?_|refine Q2 ?_ _));exact Yx.out⟩,⟨by repeat (first|(with_reducible first|exact HB.out|apply Q3|apply Q1|apply Q6|refine Q5 ?_ Wg.out)|exact HB.out)⟩⟩
     replace c10:=Bool.eq_false_iff.mpr c10;subst c10
     have H1:(Ql.j0 k (Qb.length:Int) false Qb Qh Qd Yd Ya)=some r:=by rw [if_neg (show ¬ (false=true) by decide)] at H;exact H
     clear H;have H:=H1;clear H1;have H':=Q0.mk H;clear H
     go_wp2_with (first|((with_reducible refine Qx (f:=65) rfl ?_);refine YL (some 11) rfl rfl Try.func65 (by kernel_rfl) rfl #[.int .i64 (Qb.length:Int),.int .i64 1,.int .i64 6] rfl (by (try simp only [List.map_toArray,List.map_cons,List.map_nil]);first|done|rfl|(simp only [List.length_drop,List.length_take];rfl)) ?_;(with_reducible refine (Qj.calls (Qb.length:Int) 1 6 true _ A5.out).mono ?_);rintro e w' ⟨rfl,⟨nd,rfl⟩⟩;refine ⟨_,rfl,?_⟩;have OV:w3.cell? ⟨ZX,0,none⟩=some (.slice Y3 Qb.length QG):=(Q8 Yx.out 0).trans rfl;have OW:w3.cell? ⟨ZX,1,none⟩=some (.slice Y1 Qh.length QI):=(Q8 Yx.out 1).trans rfl;have OX:w3.cell? ⟨ZX,2,none⟩=some (.slice Y5 Qd.length QJ):=(Q8 Yx.out 2).trans rfl;have qdY:w3.cell? ⟨ZX,3,none⟩=some (.int .i64 Yd):=(Q8 Yx.out 3).trans rfl;have qdZ:w3.cell? ⟨ZX,4,none⟩=some (.int .i64 Ya):=(Q8 Yx.out 4).trans rfl;have U7:=Q9 Yx.out 0;have U8:=Q9 Yx.out 1;have U9:=Q9 Yx.out 2;have qea:=Q9 Yx.out 3;have qeb:=Q9 Yx.out 4)|(go_at_call 65;(with_reducible refine (Qj.calls Yd 0 100000000 false _ A9.out).mono ?_);rintro e w' ⟨rfl,⟨nd,rfl⟩⟩))
     go_meet
     case rel=>exact ⟨_,(false),(by first|rfl|(simp;done)|(simp [*];done)),H',⟨by first|omega|exact Nat.le_refl _⟩,⟨by (with_reducible repeat (first|refine Q4 ?_ _|refine Q7 ?_|refine Q2 ?_ _));exact Yx.out⟩,⟨by repeat (first|(with_reducible first|exact HB.out|apply Q3|apply Q1|apply Q6|refine Q5 ?_ Wg.out)|exact HB.out)⟩⟩
    rw [if_neg c8] at H;have c8b0:((Qd.length:Int)==(Qb.length:Int))=false:=beq_eq_false_iff_ne.mpr c8;have c8b1:((Qd.length:Int) != (Qb.length:Int))=true:=bne_iff_ne.mpr c8
    have c8b2:(Qd.length==Qb.length)=false:=by first|simpa using c8|(simp at c8 ⊢;omega)
    have H':=Q0.mk H;clear H
    go_wp2_with (first|((with_reducible refine Qx (f:=65) rfl ?_);refine YL (some 11) rfl rfl Try.func65 (by kernel_rfl) rfl #[.int .i64 (Qb.length:Int),.int .i64 1,.int .i64 6] rfl (by (try simp only [List.map_toArray,List.map_cons,List.map_nil]);first|done|rfl|(simp only [List.length_drop,List.length_take];rfl)) ?_;(with_reducible refine (Qj.calls (Qb.length:Int) 1 6 true _ A5.out).mono ?_);rintro e w' ⟨rfl,⟨nd,rfl⟩⟩;refine ⟨_,rfl,?_⟩;have OY:w3.cell? ⟨ZX,0,none⟩=some (.slice Y3 Qb.length QG):=(Q8 Yx.out 0).trans rfl;have OZ:w3.cell? ⟨ZX,1,none⟩=some (.slice Y1 Qh.length QI):=(Q8 Yx.out 1).trans rfl;have U0:w3.cell? ⟨ZX,2,none⟩=some (.slice Y5 Qd.length QJ):=(Q8 Yx.out 2).trans rfl;have qd0:w3.cell? ⟨ZX,3,none⟩=some (.int .i64 Yd):=(Q8 Yx.out 3).trans rfl;have qd1:w3.cell? ⟨ZX,4,none⟩=some (.int .i64 Ya):=(Q8 Yx.out 4).trans rfl;have Ua:=Q9 Yx.out 0;have Ub:=Q9 Yx.out 1;have Uc:=Q9 Yx.out 2;have qec:=Q9 Yx.out 3;have qed:=Q9 Yx.out 4))
    go_meet
    case rel=>exact ⟨_,(false),(by first|rfl|(simp;done)|(simp [*];done)),H',⟨by first|omega|exact Nat.le_refl _⟩,⟨by (with_reducible repeat (first|refine Q4 ?_ _|refine Q7 ?_|refine Q2 ?_ _));exact Yx.out⟩,⟨by repeat (first|(with_reducible first|exact HB.out|apply Q3|apply Q1|apply Q6|refine Q5 ?_ Wg.out)|exact HB.out)⟩⟩
   rw [if_neg c7] at H
   have c7b0:((Qh.length:Int)==(Qb.length:Int))=false:=beq_eq_false_iff_ne.mpr c7
   have c7b1:((Qh.length:Int) != (Qb.length:Int))=true:=bne_iff_ne.mpr c7
   have c7b2:(Qh.length==Qb.length)=false:=by first|simpa using c7|(simp at c7 ⊢;omega)
   (first|rw [c7b0]|(simp only [Yj,Yu];rw [c7b0])|skip)
   have H':=Q0.mk H
   clear H
   go_wp2_with (first|((with_reducible refine Qx (f:=65) rfl ?_);refine YL (some 11) rfl rfl Try.func65 (by kernel_rfl) rfl #[.int .i64 (Qb.length:Int),.int .i64 1,.int .i64 6] rfl (by (try simp only [List.map_toArray,List.map_cons,List.map_nil]);first|done|rfl|(simp only [List.length_drop,List.length_take];rfl)) ?_;(with_reducible refine (Qj.calls (Qb.length:Int) 1 6 true _ A5.out).mono ?_);rintro e w' ⟨rfl,⟨nd,rfl⟩⟩;refine ⟨_,rfl,?_⟩;have Oi:w3.cell? ⟨ZX,0,none⟩=some (.slice Y3 Qb.length QG):=(Q8 Yx.out 0).trans rfl;have Oj:w3.cell? ⟨ZX,1,none⟩=some (.slice Y1 Qh.length QI):=(Q8 Yx.out 1).trans rfl;have U1:w3.cell? ⟨ZX,2,none⟩=some (.slice Y5 Qd.length QJ):=(Q8 Yx.out 2).trans rfl;have U2:w3.cell? ⟨ZX,3,none⟩=some (.int .i64 Yd):=(Q8 Yx.out 3).trans rfl;have U3:w3.cell? ⟨ZX,4,none⟩=some (.int .i64 Ya):=(Q8 Yx.out 4).trans rfl;have Oo:=Q9 Yx.out 0;have Oq:=Q9 Yx.out 1;have Ud:=Q9 Yx.out 2;have Ue:=Q9 Yx.out 3;have Uf:=Q9 Yx.out 4))
   go_meet
   case rel=>exact ⟨_,(false),(by first|rfl|(simp;done)|(simp [*];done)),H',⟨by first|omega|exact Nat.le_refl _⟩,⟨by (with_reducible repeat (first|refine Q4 ?_ _|refine Q7 ?_|refine Q2 ?_ _));exact Yx.out⟩,⟨by repeat (first|(with_reducible first|exact HB.out|apply Q3|apply Q1|apply Q6|refine Q5 ?_ Wg.out)|exact HB.out)⟩⟩
  replace c6:=Bool.eq_false_iff.mpr c6
  subst c6
  have H1:(Ql.j0 k (Qb.length:Int) false Qb Qh Qd Yd Ya)=some r:=by rw [if_neg (show ¬ (false=true) by decide)] at H;exact H
  clear H
  have H:=H1
  clear H1
  have H':=Q0.mk H
  clear H
  go_wp2_with (first|((with_reducible refine Qx (f:=65) rfl ?_);refine YL (some 11) rfl rfl Try.func65 (by kernel_rfl) rfl #[.int .i64 (Qb.length:Int),.int .i64 1,.int .i64 6] rfl (by (try simp only [List.map_toArray,List.map_cons,List.map_nil]);first|done|rfl|(simp only [List.length_drop,List.length_take];rfl)) ?_;(with_reducible refine (Qj.calls (Qb.length:Int) 1 6 false _ A5.out).mono ?_);rintro e w' ⟨rfl,⟨nd,rfl⟩⟩;refine ⟨_,rfl,?_⟩))
  go_meet
  case rel=>exact ⟨_,(false),(by first|rfl|(simp;done)|(simp [*];done)),H',⟨by first|omega|exact Nat.le_refl _⟩,⟨by (with_reducible repeat (first|refine Q4 ?_ _|refine Q7 ?_|refine Q2 ?_ _));exact Yx.out⟩,⟨by repeat (first|(with_reducible first|exact HB.out|apply Q3|apply Q1|apply Q6|refine Q5 ?_ Wg.out)|exact HB.out)⟩⟩
 case rest =>
  clear HC2
  try clear c1
  try clear p2
  try clear c6
  try clear p6
  try clear c7
  try clear c7b0
  try clear c7b1
  try clear c7b2
  try clear c8
  try clear c8b0
  try clear c8b1
  try clear c8b2
  try clear c10
  try clear XM
  try clear XN
  try clear qbq
  try clear qdW
  try clear qdX
  try clear OV
  try clear OW
  try clear OX
  try clear qdY
  try clear qdZ
  try clear OY
  try clear OZ
  try clear U0
  try clear qd0
  try clear qd1
  try clear Oi
  try clear Oj
  try clear U1
  try clear U2
  try clear U3
  try clear GL
  try clear GM
  try clear Ki
  try clear qgW
  try clear qgX
  try clear XX
  try clear XY
  try clear qbB
  try clear qd8
  try clear qd9
  try clear U7
  try clear U8
  try clear U9
  try clear qea
  try clear qeb
  try clear Ua
  try clear Ub
  try clear Uc
  try clear qec
  try clear qed
  try clear Oo
  try clear Oq
  try clear Ud
  try clear Ue
  try clear Uf
  try clear GN
  try clear GQ
  try clear Km
  try clear qgY
  try clear qgZ
  obtain ⟨kq,qaH,rfl,HA,HJ1,Yx,HB⟩:=hcut
  cases kq with
  | zero=>exact absurd HA.out (by simp [Ql.j0])
  | succ kj1 =>
   have H:=HA.out
   clear HA
   simp only [Ql.j0] at H
   have H':=Q0.mk H
   clear H
   go_wp2
   go_loopg [4,5] kj1 (fun kq v4 v5 w' => ∃ (OM:Bool) (Yl:Int),v4 = .bool OM∧v5 = .int .i64 Yl∧Q0 (Ql.l0 kq (Qb.length:Int) OM Yl Qb Qh Qd Yd Ya=some r)∧Q0 (kq≤kj1)∧Q0 (w'.heap[ZX]? = some (.cells #[(.slice Y3 Qb.length QG),(.slice Y1 Qh.length QI),(.slice Y5 Qd.length QJ),.int .i64 Yd,.int .i64 Ya] 111 (0,0)))∧Q0 (Below w.heap.size w w'))
   case atStart=>exact ⟨(qaH),(0),(by first|rfl|(simp;done)|(simp [*];done)),(by first|rfl|(simp;done)|(simp [*];done)),H',⟨Nat.le_refl _⟩,⟨by (with_reducible repeat (first|refine Q4 ?_ _|refine Q7 ?_|refine Q2 ?_ _));exact Yx.out⟩,⟨by repeat (first|(with_reducible first|exact HB.out|apply Q3|apply Q1|apply Q6|refine Q5 ?_ Wg.out)|exact HB.out)⟩⟩
   case round =>
    clear H';(try clear c1);(try clear p2);(try clear c6);(try clear p6);(try clear c7);(try clear c7b0);(try clear c7b1);(try clear c7b2);(try clear c8);(try clear c8b0);(try clear c8b1);(try clear c8b2);(try clear c10);(try clear XM);(try clear XN);(try clear qbq);(try clear qdW);(try clear qdX);(try clear OV);(try clear OW);(try clear OX);(try clear qdY);(try clear qdZ);(try clear OY);(try clear OZ);(try clear U0);(try clear qd0);(try clear qd1);(try clear Oi);(try clear Oj);(try clear U1);(try clear U2);(try clear U3);(try clear GL);(try clear GM);(try clear Ki);(try clear qgW);(try clear qgX);(try clear XX);(try clear XY);(try clear qbB);(try clear qd8);(try clear qd9);(try clear U7);(try clear U8);(try clear U9);(try clear qea);(try clear qeb);(try clear Ua);(try clear Ub);(try clear Uc);(try clear qec);(try clear qed);(try clear Oo);(try clear Oq);(try clear Ud);(try clear Ue);(try clear Uf);(try clear GN);(try clear GQ);(try clear Km);(try clear qgY);(try clear qgZ);(try clear p2);(try clear p6);obtain ⟨OM,Yl,rfl,rfl,HA,HK2,Yx,HB⟩:=hrel
    cases gk with
    | zero=>exact absurd HA.out (by simp [Ql.l0])
    | succ k2 =>
     have H:=HA.out;clear HA;simp only [Ql.l0] at H;have qoW:=Q0.mk H;clear H
     go_upto_region 4 with (fail)
     go_cut [47] (fun v47 wc => ∃ (kq:Nat) (qeW:Bool),v47 = .bool qeW∧Q0 (Ql.j2 kq (Qb.length:Int) OM Yl qeW Qb Qh Qd Yd Ya=some r)∧Q0 (kq≤k2)∧Q0 (wc.heap[ZX]? = some (.cells #[(.slice Y3 Qb.length QG),(.slice Y1 Qh.length QI),(.slice Y5 Qd.length QJ),.int .i64 Yd,.int .i64 Ya] 111 (0,0)))∧Q0 (Below w.heap.size w wc))
     case first =>
      have H:=qoW.out;clear qoW
      by_cases c17:OM=true
      ·
       subst c17
       have H1:(Ql.j2 k2 (Qb.length:Int) true Yl (decide (Yl<(Qb.length:Int))) Qb Qh Qd Yd Ya)=some r:=by rw [if_pos rfl] at H;exact H
       clear H;have H:=H1;clear H1;have H':=Q0.mk H;clear H
       go_wp2
       go_meet
       case rel=>exact ⟨_,(decide (Yl<(Qb.length:Int))),(by first|rfl|(simp;done)|(simp [*];done)),H',⟨by have:=HJ1.out;have:=HK2.out;first|omega|exact Nat.le_refl _⟩,⟨by (with_reducible repeat (first|refine Q4 ?_ _|refine Q7 ?_|refine Q2 ?_ _));exact Yx.out⟩,⟨by repeat (first|(with_reducible first|exact HB.out|apply Q3|apply Q1|apply Q6|refine Q5 ?_ Wg.out)|exact HB.out)⟩⟩
      replace c17:=Bool.eq_false_iff.mpr c17;subst c17
      have H1:(Ql.j2 k2 (Qb.length:Int) false Yl false Qb Qh Qd Yd Ya)=some r:=by rw [if_neg (show ¬ (false=true) by decide)] at H;exact H
      clear H;have H:=H1;clear H1;have H':=Q0.mk H;clear H
      go_wp2
      go_meet
      case rel=>exact ⟨_,(false),(by first|rfl|(simp;done)|(simp [*];done)),H',⟨by have:=HJ1.out;have:=HK2.out;first|omega|exact Nat.le_refl _⟩,⟨by (with_reducible repeat (first|refine Q4 ?_ _|refine Q7 ?_|refine Q2 ?_ _));exact Yx.out⟩,⟨by repeat (first|(with_reducible first|exact HB.out|apply Q3|apply Q1|apply Q6|refine Q5 ?_ Wg.out)|exact HB.out)⟩⟩
     case rest =>
      clear qoW;(try clear c1);(try clear p2);(try clear c6);(try clear p6);(try clear c7);(try clear c7b0);(try clear c7b1);(try clear c7b2);(try clear c8);(try clear c8b0);(try clear c8b1);(try clear c8b2);(try clear c10);(try clear c17);(try clear XM);(try clear XN);(try clear qbq);(try clear qdW);(try clear qdX);(try clear OV);(try clear OW);(try clear OX);(try clear qdY);(try clear qdZ);(try clear OY);(try clear OZ);(try clear U0);(try clear qd0);(try clear qd1);(try clear Oi);(try clear Oj);(try clear U1);(try clear U2);(try clear U3);(try clear GL);(try clear GM);(try clear Ki);(try clear qgW);(try clear qgX);(try clear XX);(try clear XY);(try clear qbB);(try clear qd8);(try clear qd9);(try clear U7);(try clear U8);(try clear U9);(try clear qea);(try clear qeb);(try clear Ua);(try clear Ub);(try clear Uc);(try clear qec);(try clear qed);(try clear Oo);(try clear Oq);(try clear Ud);(try clear Ue);(try clear Uf);(try clear GN);(try clear GQ);(try clear Km);(try clear qgY);(try clear qgZ);(try clear p2);(try clear p6);obtain ⟨kq,qeW,rfl,HA,qiY,Yx,HB⟩:=hcut
      cases kq with
      | zero=>exact absurd HA.out (by simp [Ql.j2])
      | succ Wz =>
       have H:=HA.out;clear HA;simp only [Ql.j2] at H
       by_cases c18:qeW=true
       ·
        subst c18
        have H1:(if 0≤Yl then (if Yl<(Qb.length:Int) then ((Qj.f (rd Qb Yl) 0 100000).bind fun qjt=>(if qjt=true then (if Yl<(Qh.length:Int) then ((Qj.f (rd Qh Yl) 0 1000).bind fun qc9=>(if qc9=true then (if Yl<(Qd.length:Int) then ((Qj.f (rd Qd Yl) 0 100).bind fun Xy=>(Ql.l0 Wz (Qb.length:Int) Xy (wrap64 (Yl+1)) Qb Qh Qd Yd Ya)) else (none)) else (Ql.l0 Wz (Qb.length:Int) false (wrap64 (Yl+1)) Qb Qh Qd Yd Ya))) else (none)) else (Ql.l0 Wz (Qb.length:Int) false (wrap64 (Yl+1)) Qb Qh Qd Yd Ya))) else (none)) else (none))=some r:=by rw [if_pos rfl] at H;exact H
        clear H;have H:=H1;clear H1
        by_cases c19:0≤Yl
        ·
         rw [if_pos c19] at H;have c19b0:decide (0≤Yl)=true:=decide_eq_true c19;clear c19
         by_cases c20:Yl<(Qb.length:Int)
         ·
          rw [if_pos c20] at H;have c20b0:decide (Yl<(Qb.length:Int))=true:=decide_eq_true c20;clear c20;replace H:=Option.bind_eq_some_iff.mp H;obtain ⟨qjt,qqc,H⟩:=H;replace H:(if qjt=true then (if Yl<(Qh.length:Int) then ((Qj.f (rd Qh Yl) 0 1000).bind fun qc9=>(if qc9=true then (if Yl<(Qd.length:Int) then ((Qj.f (rd Qd Yl) 0 100).bind fun Xy=>(Ql.l0 Wz (Qb.length:Int) Xy (wrap64 (Yl+1)) Qb Qh Qd Yd Ya)) else (none)) else (Ql.l0 Wz (Qb.length:Int) false (wrap64 (Yl+1)) Qb Qh Qd Yd Ya))) else (none)) else (Ql.l0 Wz (Qb.length:Int) false (wrap64 (Yl+1)) Qb Qh Qd Yd Ya))=some r:=H;have A21:=Q0.mk qqc;clear qqc
          by_cases c22:qjt=true
          ·
           subst c22
           have H1:(if Yl<(Qh.length:Int) then ((Qj.f (rd Qh Yl) 0 1000).bind fun qc9=>(if qc9=true then (if Yl<(Qd.length:Int) then ((Qj.f (rd Qd Yl) 0 100).bind fun Xy=>(Ql.l0 Wz (Qb.length:Int) Xy (wrap64 (Yl+1)) Qb Qh Qd Yd Ya)) else (none)) else (Ql.l0 Wz (Qb.length:Int) false (wrap64 (Yl+1)) Qb Qh Qd Yd Ya))) else (none))=some r:=by rw [if_pos rfl] at H;exact H
           clear H;have H:=H1;clear H1
           by_cases c23:Yl<(Qh.length:Int)
           ·
            rw [if_pos c23] at H;have c23b0:decide (Yl<(Qh.length:Int))=true:=decide_eq_true c23;clear c23;replace H:=Option.bind_eq_some_iff.mp H;obtain ⟨qc9,qe4,H⟩:=H;replace H:(if qc9=true then (if Yl<(Qd.length:Int) then ((Qj.f (rd Qd Yl) 0 100).bind fun Xy=>(Ql.l0 Wz (Qb.length:Int) Xy (wrap64 (Yl+1)) Qb Qh Qd Yd Ya)) else (none)) else (Ql.l0 Wz (Qb.length:Int) false (wrap64 (Yl+1)) Qb Qh Qd Yd Ya))=some r:=H;have A24:=Q0.mk qe4;clear qe4
            by_cases c25:qc9=true
            ·
             subst c25
             have H1:(if Yl<(Qd.length:Int) then ((Qj.f (rd Qd Yl) 0 100).bind fun Xy=>(Ql.l0 Wz (Qb.length:Int) Xy (wrap64 (Yl+1)) Qb Qh Qd Yd Ya)) else (none))=some r:=by rw [if_pos rfl] at H;exact H
             clear H;have H:=H1;clear H1
             by_cases c26:Yl<(Qd.length:Int)
             ·
              rw [if_pos c26] at H;have c26b0:decide (Yl<(Qd.length:Int))=true:=decide_eq_true c26;clear c26;replace H:=Option.bind_eq_some_iff.mp H;obtain ⟨Xy,qqe,H⟩:=H;replace H:(Ql.l0 Wz (Qb.length:Int) Xy (wrap64 (Yl+1)) Qb Qh Qd Yd Ya)=some r:=H;have A27:=Q0.mk qqe;clear qqe;have H':=Q0.mk H;clear H;have qd2:wc.cell? ⟨ZX,0,none⟩=some (.slice Y3 Qb.length QG):=(Q8 Yx.out 0).trans rfl;have qd3:wc.cell? ⟨ZX,1,none⟩=some (.slice Y1 Qh.length QI):=(Q8 Yx.out 1).trans rfl;have qtx:wc.cell? ⟨ZX,2,none⟩=some (.slice Y5 Qd.length QJ):=(Q8 Yx.out 2).trans rfl;have qty:wc.cell? ⟨ZX,3,none⟩=some (.int .i64 Yd):=(Q8 Yx.out 3).trans rfl;have qtz:wc.cell? ⟨ZX,4,none⟩=some (.int .i64 Ya):=(Q8 Yx.out 4).trans rfl;have qee:=Q9 Yx.out 0;have qef:=Q9 Yx.out 1;have qvz:=Q9 Yx.out 2;have qvA:=Q9 Yx.out 3;have qvB:=Q9 Yx.out 4;have qcD:0≤(Yl:Int):=of_decide_eq_true (by first|(with_reducible assumption)|assumption);have qcI:Yl<(Qb.length:Int):=of_decide_eq_true (by first|(with_reducible assumption)|assumption);obtain ⟨qov,qkl,KD⟩:=Kd.at_int Jt.out Yl qcD qcI;cases qkl;replace KD:=(HB.out.cell (World.block_lt_of_cell? w _ KD)).trans KD;replace qcD:=eq_true qcD;replace qcI:=eq_true qcI
              go_wp2_with (first|((with_reducible refine Qx (f:=65) rfl ?_);refine YL (some 56) rfl rfl Try.func65 (by kernel_rfl) rfl #[.int .i64 (rd Qb Yl),.int .i64 0,.int .i64 100000] rfl (by (try simp only [List.map_toArray,List.map_cons,List.map_nil]);first|done|rfl|(simp only [List.length_drop,List.length_take];rfl)) ?_;(with_reducible refine (Qj.calls (rd Qb Yl) 0 100000 true _ A21.out).mono ?_);rintro e w' ⟨rfl,⟨nd,rfl⟩⟩;refine ⟨_,rfl,?_⟩;have qhg:0≤(Yl:Int):=of_decide_eq_true (by first|(with_reducible assumption)|assumption);have qht:Yl<(Qh.length:Int):=of_decide_eq_true (by first|(with_reducible assumption)|assumption);obtain ⟨qqW,qpm,UY⟩:=Kd.at_int JD.out Yl qhg qht;cases qpm;replace UY:=(HB.out.cell (World.block_lt_of_cell? w _ UY)).trans UY;replace qhg:=eq_true qhg;replace qht:=eq_true qht)|(go_at_call 65;(with_reducible refine (Qj.calls (rd Qh Yl) 0 1000 true _ A24.out).mono ?_);rintro e w' ⟨rfl,⟨nd,rfl⟩⟩;have qpT:0≤(Yl:Int):=of_decide_eq_true (by first|(with_reducible assumption)|assumption);have qpZ:Yl<(Qd.length:Int):=of_decide_eq_true (by first|(with_reducible assumption)|assumption);obtain ⟨qAS,e152,qel⟩:=Kd.at_int JE.out Yl qpT qpZ;cases e152;replace qel:=(HB.out.cell (World.block_lt_of_cell? w _ qel)).trans qel;replace qpT:=eq_true qpT;replace qpZ:=eq_true qpZ)|(go_at_call 65;(with_reducible refine (Qj.calls (rd Qd Yl) 0 100 Xy _ A27.out).mono ?_);rintro e w' ⟨rfl,⟨nd,rfl⟩⟩))
              go_roundg Wz
              case measure=>have:=HJ1.out;have:=HK2.out;have:=qiY.out;omega
              case rel=>exact ⟨(Xy),(wrap64 (Yl+1)),(by first|rfl|(simp;done)|(simp [*];done)),(by first|rfl|(simp;done)|(simp [*];done)),H',⟨by have:=HJ1.out;have:=HK2.out;have:=qiY.out;omega⟩,⟨by (with_reducible repeat (first|refine Q4 ?_ _|refine Q7 ?_|refine Q2 ?_ _));exact Yx.out⟩,⟨by repeat (first|(with_reducible first|exact HB.out|apply Q3|apply Q1|apply Q6|refine Q5 ?_ Wg.out)|exact HB.out)⟩⟩
             rw [if_neg c26] at H
             exact absurd H (by simp)
            replace c25:=Bool.eq_false_iff.mpr c25;subst c25
            have H1:(Ql.l0 Wz (Qb.length:Int) false (wrap64 (Yl+1)) Qb Qh Qd Yd Ya)=some r:=by rw [if_neg (show ¬ (false=true) by decide)] at H;exact H
            clear H;have H:=H1;clear H1;have H':=Q0.mk H;clear H;have ql2:wc.cell? ⟨ZX,0,none⟩=some (.slice Y3 Qb.length QG):=(Q8 Yx.out 0).trans rfl;have ql3:wc.cell? ⟨ZX,1,none⟩=some (.slice Y1 Qh.length QI):=(Q8 Yx.out 1).trans rfl;have ql4:wc.cell? ⟨ZX,2,none⟩=some (.slice Y5 Qd.length QJ):=(Q8 Yx.out 2).trans rfl;have qtA:wc.cell? ⟨ZX,3,none⟩=some (.int .i64 Yd):=(Q8 Yx.out 3).trans rfl;have qtB:wc.cell? ⟨ZX,4,none⟩=some (.int .i64 Ya):=(Q8 Yx.out 4).trans rfl;have qmE:=Q9 Yx.out 0;have qmF:=Q9 Yx.out 1;have qmG:=Q9 Yx.out 2;have qvC:=Q9 Yx.out 3;have qvD:=Q9 Yx.out 4;have qcD:0≤(Yl:Int):=of_decide_eq_true (by first|(with_reducible assumption)|assumption);have qcI:Yl<(Qb.length:Int):=of_decide_eq_true (by first|(with_reducible assumption)|assumption);obtain ⟨qov,qkl,KD⟩:=Kd.at_int Jt.out Yl qcD qcI;cases qkl;replace KD:=(HB.out.cell (World.block_lt_of_cell? w _ KD)).trans KD;replace qcD:=eq_true qcD;replace qcI:=eq_true qcI
            go_wp2_with (first|((with_reducible refine Qx (f:=65) rfl ?_);refine YL (some 56) rfl rfl Try.func65 (by kernel_rfl) rfl #[.int .i64 (rd Qb Yl),.int .i64 0,.int .i64 100000] rfl (by (try simp only [List.map_toArray,List.map_cons,List.map_nil]);first|done|rfl|(simp only [List.length_drop,List.length_take];rfl)) ?_;(with_reducible refine (Qj.calls (rd Qb Yl) 0 100000 true _ A21.out).mono ?_);rintro e w' ⟨rfl,⟨nd,rfl⟩⟩;refine ⟨_,rfl,?_⟩;have qhg:0≤(Yl:Int):=of_decide_eq_true (by first|(with_reducible assumption)|assumption);have qht:Yl<(Qh.length:Int):=of_decide_eq_true (by first|(with_reducible assumption)|assumption);obtain ⟨qqW,qpm,UY⟩:=Kd.at_int JD.out Yl qhg qht;cases qpm;replace UY:=(HB.out.cell (World.block_lt_of_cell? w _ UY)).trans UY;replace qhg:=eq_true qhg;replace qht:=eq_true qht)|(go_at_call 65;(with_reducible refine (Qj.calls (rd Qh Yl) 0 1000 false _ A24.out).mono ?_);rintro e w' ⟨rfl,⟨nd,rfl⟩⟩))
            go_roundg Wz
            case measure=>have:=HJ1.out;have:=HK2.out;have:=qiY.out;omega
            case rel=>exact ⟨(false),(wrap64 (Yl+1)),(by first|rfl|(simp;done)|(simp [*];done)),(by first|rfl|(simp;done)|(simp [*];done)),H',⟨by have:=HJ1.out;have:=HK2.out;have:=qiY.out;omega⟩,⟨by (with_reducible repeat (first|refine Q4 ?_ _|refine Q7 ?_|refine Q2 ?_ _));exact Yx.out⟩,⟨by repeat (first|(with_reducible first|exact HB.out|apply Q3|apply Q1|apply Q6|refine Q5 ?_ Wg.out)|exact HB.out)⟩⟩
           rw [if_neg c23] at H
           exact absurd H (by simp)
          replace c22:=Bool.eq_false_iff.mpr c22;subst c22
          have H1:(Ql.l0 Wz (Qb.length:Int) false (wrap64 (Yl+1)) Qb Qh Qd Yd Ya)=some r:=by rw [if_neg (show ¬ (false=true) by decide)] at H;exact H
          clear H;have H:=H1;clear H1;have H':=Q0.mk H;clear H;have qtC:wc.cell? ⟨ZX,0,none⟩=some (.slice Y3 Qb.length QG):=(Q8 Yx.out 0).trans rfl;have qtD:wc.cell? ⟨ZX,1,none⟩=some (.slice Y1 Qh.length QI):=(Q8 Yx.out 1).trans rfl;have qtE:wc.cell? ⟨ZX,2,none⟩=some (.slice Y5 Qd.length QJ):=(Q8 Yx.out 2).trans rfl;have qtF:wc.cell? ⟨ZX,3,none⟩=some (.int .i64 Yd):=(Q8 Yx.out 3).trans rfl;have qtG:wc.cell? ⟨ZX,4,none⟩=some (.int .i64 Ya):=(Q8 Yx.out 4).trans rfl;have qvE:=Q9 Yx.out 0;have qvF:=Q9 Yx.out 1;have qvG:=Q9 Yx.out 2;have qvH:=Q9 Yx.out 3;have qvI:=Q9 Yx.out 4;have qcD:0≤(Yl:Int):=of_decide_eq_true (by first|(with_reducible assumption)|assumption);have qcI:Yl<(Qb.length:Int):=of_decide_eq_true (by first|(with_reducible assumption)|assumption);obtain ⟨qov,qkl,KD⟩:=Kd.at_int Jt.out Yl qcD qcI;cases qkl;replace KD:=(HB.out.cell (World.block_lt_of_cell? w _ KD)).trans KD;replace qcD:=eq_true qcD;replace qcI:=eq_true qcI
          go_wp2_with (first|((with_reducible refine Qx (f:=65) rfl ?_);refine YL (some 56) rfl rfl Try.func65 (by kernel_rfl) rfl #[.int .i64 (rd Qb Yl),.int .i64 0,.int .i64 100000] rfl (by (try simp only [List.map_toArray,List.map_cons,List.map_nil]);first|done|rfl|(simp only [List.length_drop,List.length_take];rfl)) ?_;(with_reducible refine (Qj.calls (rd Qb Yl) 0 100000 false _ A21.out).mono ?_);rintro e w' ⟨rfl,⟨nd,rfl⟩⟩;refine ⟨_,rfl,?_⟩))
          go_roundg Wz
          case measure=>have:=HJ1.out;have:=HK2.out;have:=qiY.out;omega
          case rel=>exact ⟨(false),(wrap64 (Yl+1)),(by first|rfl|(simp;done)|(simp [*];done)),(by first|rfl|(simp;done)|(simp [*];done)),H',⟨by have:=HJ1.out;have:=HK2.out;have:=qiY.out;omega⟩,⟨by (with_reducible repeat (first|refine Q4 ?_ _|refine Q7 ?_|refine Q2 ?_ _));exact Yx.out⟩,⟨by repeat (first|(with_reducible first|exact HB.out|apply Q3|apply Q1|apply Q6|refine Q5 ?_ Wg.out)|exact HB.out)⟩⟩
         rw [if_neg c20] at H
         exact absurd H (by simp)
        rw [if_neg c19] at H
        exact absurd H (by simp)
       replace c18:=Bool.eq_false_iff.mpr c18;subst c18
       have H1:(some OM)=some r:=by rw [if_neg (show ¬ (false=true) by decide)] at H;exact H
       clear H;have H:=H1;clear H1;obtain rfl:=Option.some.inj H
       go_wp2
       go_ret
       exact ⟨by first|rfl|(simp [Qq,Qr]<;>rfl)|(simp [*,Qq,Qr]<;>rfl),by repeat (first|(with_reducible first|exact HB.out|apply Q3|apply Q1|apply Q6|refine Q5 ?_ Wg.out)|exact HB.out)⟩
end
section
set_option maxRecDepth 100000 in
theorem Zc.calls6 (A0:Option Addr) (c0:Nat) (l0:List Int) (A1:Option Addr) (c1 n1:Nat) (A2:Option Addr) (c2 n2:Nat) (a3 a4:Int) (w:World) (hr0:Kd.C (Kd.int .i64) w A0 l0.length l0) (hl:l0.length≤6) :
  Calls Try.prog 78 #[.agg #[.slice A0 l0.length c0,.slice A1 n1 c1,.slice A2 n2 c2,.int .i64 a3,.int .i64 a4]] w fun e w'=>e = .returned (.agg (ar6 l0).toArray)∧Below w.heap.size w w':=by
 have hu:=Try.underlying111
 have hu2:=Try.underlying39
 have hu3:=Try.underlying115
 have HL:=Q0.mk hl
 have HR0:=Q0.mk hr0
 clear hr0 hl
 go_enter Try.func78,Try.ntmps78
 go_wp2
 go_region_law (refine step_copy_splice rfl (.tmp 4) (.tmp 7) 37 37 rfl 3 Try.underlying37 (by kernel_rfl) (some ⟨w.heap.size+1+1,0,none⟩) A0 6 6 l0.length c0 rfl rfl (w.heap.size+1+1) 0 (ar6 []) 115 ?c1 (l0.map (Value.int .i64)) (qnm HL.out) ?c2 ?c3 (qnn l0) (w.heap.size+2) _ (Below.refl _ _) (Nat.le_refl _) ?_;(case c1=>exact Q7 (by have h:=OS (((w.alloc (.cells #[.slice A0 l0.length c0,.slice A1 n1 c1,.slice A2 n2 c2,.int .i64 a3,.int .i64 a4] 111)).alloc (.cells (ar6 []).toArray 115))) (.cells (ar6 []).toArray 115);simp only [World.size_alloc] at h;exact h));(case c2=>exact fun h0=>⟨rfl,XA HR0.out (by repeat (first|exact Below.refl _ _|apply Yr|apply Q3)) h0⟩);(case c3=>simpa [ar6] using HL.out);intro w4 hg4 hb4)
 have HG:=Q0.mk (show Is6 w4 (w.heap.size+1+1) l0 by have h:=hg4;unfold Hid at h;rw [qhE l0 HL.out] at h;exact h)
 have HZ:Is6 w4 (w.heap.size+1) []:=(hb4.block (w.heap.size+1) (by omega)).trans (Q7 (Q2 (by have h:=OS (w.alloc (.cells #[.slice A0 l0.length c0,.slice A1 n1 c1,.slice A2 n2 c2,.int .i64 a3,.int .i64 a4] 111)) (.cells (ar6 []).toArray 115);simp only [World.size_alloc] at h;exact h) _))
 have HZ:=Q0.mk HZ
 have HB:=Q0.mk (show Below w.heap.size w w4 from (Yr (Q3 (Q3 (Q3 (Below.refl w.heap.size w) _) _) _)).trans (hb4.mono (by omega)))
 clear hg4 hb4
 obtain ⟨g0,g1,g2,g3,g4,g5⟩:=HG.out.cells
 obtain ⟨z0,z1,z2,z3,z4,z5⟩:=HZ.out.cells
 obtain ⟨f0,f1,f2,f3,f4,f5⟩:=HZ.out.frozen
 go_wp2
 refine bodyPost_ret (results_cell_row rfl _ _ (w.heap.size+1) 115 (ar6 l0).toArray (0,0) _ rfl (HZ.out.put6 l0) Try.underlying115 rfl (by kernel_rfl)) rfl ?_
 refine ⟨rfl,?_⟩
 have h1:w.heap.size≤w.heap.size+1:=by omega
 repeat (with_reducible first|exact HB.out|refine Q5 ?_ h1)
def Zc.f (Qb Qh Qd:List Int) (Yd Ya:Int):Option (Int × Int × Int × Int × Int × Int) :=
 if Qb.length≤6 then some (rd Qb 0,rd Qb 1,rd Qb 2,rd Qb 3,rd Qb 4,rd Qb 5) else none
theorem Zc.calls (Y3:Option Addr) (QG:Nat) (Qb:List Int) (Y1:Option Addr) (QI:Nat) (Qh:List Int) (Y5:Option Addr) (QJ:Nat) (Qd:List Int) (Yd Ya r1 r2 r3 r4 r5 r6:Int) (w:World)
  (Gr:Kd.C (Kd.int .i64) w Y3 Qb.length Qb) (GI:Qb.length≤QG) (Gs:Kd.C (Kd.int .i64) w Y1 Qh.length Qh) (GJ:Qh.length≤QI) (Gt:Kd.C (Kd.int .i64) w Y5 Qd.length Qd) (GK:Qd.length≤QJ)
  (h:Zc.f Qb Qh Qd Yd Ya=some (r1,r2,r3,r4,r5,r6)) :
  Calls Try.prog 78 #[.agg #[.slice Y3 Qb.length QG,.slice Y1 Qh.length QI,.slice Y5 Qd.length QJ,.int .i64 Yd,.int .i64 Ya]] w fun e w' =>
   e = .returned (.agg #[.int .i64 r1,.int .i64 r2,.int .i64 r3,.int .i64 r4,.int .i64 r5,.int .i64 r6])∧Below w.heap.size w w':=by
 unfold Zc.f at h
 by_cases hv:Qb.length≤6
 ·
  rw [if_pos hv] at h
  injection h with h
  simp only [Prod.mk.injEq] at h
  obtain ⟨rfl,rfl,rfl,rfl,rfl,rfl⟩:=h
  exact Zc.calls6 Y3 QG Qb Y1 QI Qh.length Y5 QJ Qd.length Yd Ya w Gr hv
 ·
  rw [if_neg hv] at h
  exact absurd h (by simp)
end
end Go.Proofs.Ytmhomdohhihlcaa.P
