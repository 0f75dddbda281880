/- What the statement StockFalls leans on, part 6 of 6: contracts of the program's functions; conditions: none. -/
import Derived.Deep.Slices
import Derived.ChangeSame
import Derived.OpenShut
import Derived.SizedLaws
import Derived.Lib.SmallJoins
import Derived.Test.YtmhomdohhihlcaaStockFallsx0
import Derived.Test.YtmhomdohhihlcaaStockFallsx1
import Derived.Test.YtmhomdohhihlcaaStockFallsx2
import Derived.Test.YtmhomdohhihlcaaStockFallsx3
import Derived.Test.YtmhomdohhihlcaaStockFallsx4
set_option linter.unusedVariables false
set_option linter.unusedSimpArgs false
set_option linter.constructorNameAsVariable false
set_option linter.unusedSectionVars false
namespace Go.Proofs.Ytmhomdohhihlcaa.P
open Go.RowKit Go.ChangeShapes Go.WideShapes Go.Proofs.YtmhomdohhihlcaaW.PrintWords Go.Proofs.YtmhomdohhihlcaaW.PrintLast Go.Proofs.YtmhomdohhihlcaaW.PrintMore
def qb2 {α:Type} (d:Kd α) (t:TypeId) (p:α→Prop):Prop:=∀ (H:Type) (enc:TypeId × Value→H) (w:World) (fuel:Nat) (cs:List Value) (x:DataW H × List MemPlace),
 DataW.trod enc Try.prog w 0 (fun _=>true) true fuel t cs=some x → ∃ a,d.K w a cs∧p a
def Wf (n:Int):Prop:=(Lit.int .i64 n).wf=true
theorem qk8:qb2 (Kd.int .i64) 3 Wf:=fun H enc w fuel cs x h=>by
 obtain ⟨n,rfl,_,hw⟩:=DataW.trod_int Try.underlying3 h
 exact ⟨n,rfl,hw⟩
theorem qha {α:Type} {d:Kd α} {e e' t:TypeId} {p:α→Prop} (h:qb2 d e p) (ht:Try.prog.underlying t=some (.slice e)) (hc:Try.prog.cellsOf e=d.sz):qb2 (Kd.slice e' d) t (fun xs => ∀ x∈xs,p x):=fun H enc w fuel cs x hf=>by
 rcases Deep.open_slice ht hf with ⟨rfl,_⟩|⟨a,len,cap,m,n,D,Pl,rfl,_,hl,hm,hmm,_,hx⟩
 ·
  exact ⟨[],⟨none,0,rfl,Nat.le_refl _,Kd.C_nil d w⟩,fun x hx=>by simp at hx⟩
 ·
  have each:∀ i,i<len → ∃ z:α,(∃ c,c.length=d.sz∧d.K w z c ∧ ∀ j u,c[j]? = some u→w.cell? (a.add (i*d.sz+j))=some u)∧p z:=fun i hi=>by
   obtain ⟨cs',h1,h2⟩:=hx i (by simp only [if_true] at hmm;omega)
   obtain ⟨z,hz,hp⟩:=h H enc w n cs' _ h2
   obtain ⟨_,hcl,hat⟩:=World.cells?_some h1
   refine ⟨z,⟨cs',d.K_len hz,hz,fun j u hu => ?_⟩,hp⟩
   have hj:j<cs'.length:=(List.getElem?_eq_some_iff.1 hu).1
   rw [d.K_len hz] at hj
   have hj':j<Try.prog.cellsOf e:=by rw [hc];exact hj
   have h3:=hat j hj'
   rw [Deep.add_add,hc] at h3
   rw [h3]
   exact hu
  by_cases h0:len=0
  ·
   subst h0
   exact ⟨[],⟨some a,cap,rfl,by simp,⟨rfl,by simp,fun hh=>by simp at hh⟩⟩,fun x hx=>by simp at hx⟩
  ·
   obtain ⟨z0,_⟩:=each 0 (by omega)
   have inst:Inhabited α:=⟨z0⟩
   obtain ⟨f,hfz⟩:=Deep.choose_lt each
   have hmx:cap≤9223372036854775807:=by unfold maxLen at hm;omega
   refine ⟨(List.range len).map f,⟨some a,cap,by simp,by simpa using hl,⟨rfl,by simp;omega,fun _=>⟨a,rfl,fun j q hj => ?_⟩⟩⟩,fun x hx => ?_⟩
   ·
    have hj2:j<len:=by have:=(List.getElem?_eq_some_iff.1 hj).1;simpa using this
    rw [List.getElem?_map,List.getElem?_range hj2] at hj
    injection hj with hj
    subst hj;obtain ⟨c,c1,c2,c3⟩:=(hfz j hj2).1
    exact ⟨c,c1,c2,c3⟩
   ·
    obtain ⟨i,hi,rfl⟩:=List.mem_map.1 hx
    exact (hfz i (List.mem_range.1 hi)).2
theorem c3:Try.prog.cellsOf 3=1:=by kernel_rfl
theorem c25:Try.prog.cellsOf 25=2:=by kernel_rfl
theorem c37:Try.prog.cellsOf 37=1:=by kernel_rfl
theorem c32:Try.prog.cellsOf 32=1:=by kernel_rfl
theorem c63:Try.prog.cellsOf 63=1:=by kernel_rfl
theorem c44:Try.prog.cellsOf 44=1:=by kernel_rfl
theorem c45:Try.prog.cellsOf 45=1:=by kernel_rfl
theorem c39:Try.prog.cellsOf 39=5:=by kernel_rfl
theorem c47:Try.prog.cellsOf 47=3:=by kernel_rfl
theorem c23:Try.prog.cellsOf 23=2:=by kernel_rfl
theorem c77:Try.prog.cellsOf 77=3:=by kernel_rfl
theorem qCn {α:Type} {l:List α} (h:l.length=2):∃ a b,l=[a,b]:=by
 match l,h with
 | [a,b],_=>exact ⟨a,b,rfl⟩
theorem qCo {α:Type} {l:List α} (h:l.length=3):∃ a b c,l=[a,b,c]:=by
 match l,h with
 | [a,b,c],_=>exact ⟨a,b,c,rfl⟩
theorem qCp {α:Type} {l:List α} (h:l.length=5):∃ a b c d e,l=[a,b,c,d,e]:=by
 match l,h with
 | [a,b,c,d,e],_=>exact ⟨a,b,c,d,e,rfl⟩
theorem XX {α:Type} {l:List α} {i:Nat} {o:Option α} (hi:i<l.length) (h:o=l[i]?):∃ y,o=some y:=⟨l[i],by rw [h,List.getElem?_eq_getElem hi]⟩
def WL (l:List Int):Prop:=∀ x∈l,Wf x
def W39 (s:S39):Prop:=WL s.f0∧WL s.f1∧WL s.f2∧Wf s.f3∧Wf s.f4
theorem Ut:qb2 (Kd.slice 3 (Kd.int .i64)) 37 WL:=qha qk8 Try.underlying37 c3
theorem qm1:qb2 k39 39 W39:=fun H enc w fuel cs x h=>by
 obtain ⟨xs,n,_,_,hl,hxl,hf⟩:=DataW.trod_struct Try.underlying39 h
 rw [c39] at hl
 obtain ⟨a,b,c,d,e,rfl⟩:=qCp hl
 have h0:DataW.trod enc Try.prog w 0 (fun _=>true) true n 37 (([a,b,c,d,e].drop 0).take (Try.prog.cellsOf 37))=xs[0]?:=hf 0 _ rfl
 have h1:DataW.trod enc Try.prog w 0 (fun _=>true) true n 37 (([a,b,c,d,e].drop 1).take (Try.prog.cellsOf 37))=xs[1]?:=hf 1 _ rfl
 have h2:DataW.trod enc Try.prog w 0 (fun _=>true) true n 37 (([a,b,c,d,e].drop 2).take (Try.prog.cellsOf 37))=xs[2]?:=hf 2 _ rfl
 have h3:DataW.trod enc Try.prog w 0 (fun _=>true) true n 3 (([a,b,c,d,e].drop 3).take (Try.prog.cellsOf 3))=xs[3]?:=hf 3 _ rfl
 have h4:DataW.trod enc Try.prog w 0 (fun _=>true) true n 3 (([a,b,c,d,e].drop 4).take (Try.prog.cellsOf 3))=xs[4]?:=hf 4 _ rfl
 rw [c37] at h0 h1 h2
 rw [c3] at h3 h4
 have hx2:xs.length=5:=hxl
 obtain ⟨y0,e0⟩:=XX (by omega) h0
 obtain ⟨y1,e1⟩:=XX (by omega) h1
 obtain ⟨y2,e2⟩:=XX (by omega) h2
 obtain ⟨y3,e3⟩:=XX (by omega) h3
 obtain ⟨y4,e4⟩:=XX (by omega) h4
 obtain ⟨l0,⟨A0,d0,q0,z0,k0⟩,g0⟩:=Ut H enc w n _ _ e0
 obtain ⟨l1,⟨A1,d1,q1,z1,k1⟩,g1⟩:=Ut H enc w n _ _ e1
 obtain ⟨l2,⟨A2,d2,q2,z2,k2⟩,g2⟩:=Ut H enc w n _ _ e2
 obtain ⟨n3,q3,_,g3⟩:=DataW.trod_int Try.underlying3 e3
 obtain ⟨n4,q4,_,g4⟩:=DataW.trod_int Try.underlying3 e4
 replace q0:[a]=[Value.slice A0 l0.length d0]:=q0
 replace q1:[b]=[Value.slice A1 l1.length d1]:=q1
 replace q2:[c]=[Value.slice A2 l2.length d2]:=q2
 replace q3:[d]=[Value.int .i64 n3]:=q3
 replace q4:[e]=[Value.int .i64 n4]:=q4
 injection q0 with q0
 injection q1 with q1
 injection q2 with q2
 injection q3 with q3
 injection q4 with q4
 subst q0 q1 q2 q3 q4
 exact ⟨⟨l0,l1,l2,n3,n4⟩,qmJ w ⟨l0,l1,l2,n3,n4⟩ z0 k0 z1 k1 z2 k2,g0,g1,g2,g3,g4⟩
section
variable {H:Type} {enc:TypeId × Value→H} {W:World} {d:DataW H} {ps:List MemPlace}
theorem qey {α:Type} {k:Kd α} {t e':TypeId} {p:List α→Prop} (hr:qb2 (Kd.slice e' k) t p) {a:Option Addr} {len cap:Nat} (h:DataW.Trod enc Try.prog W 0 (fun _=>true) true t (.slice a len cap) d ps) :
  ∃ l:List α,len=l.length∧Kd.C k W a l.length l∧l.length≤cap∧p l:=by
 obtain ⟨fuel,hf⟩:=h
 obtain ⟨l,⟨A,c,e1,hc,hC⟩,hp⟩:=hr H enc W fuel _ _ hf
 replace e1:[Value.slice a len cap]=[Value.slice A l.length c]:=e1
 injection e1 with e1
 injection e1 with e1 e2 e3
 subst e1 e2 e3
 exact ⟨l,rfl,hC,hc,hp⟩
theorem qgi {t e:TypeId} {a:Option Addr} {len cap:Nat} {ts:List TypeId} {ds:List (DataW H)} {j:Nat} {B:Nat}
  (hsz:(DataW.weightsEach Try.prog ts ds).all (· ≤ reachBytes)=true) (ht:ts[j]? = some t) (hd:ds[j]? = some d) (hu:Try.prog.underlying t=some (.slice e)) (hB:Try.prog.bytesOf e=B)
  (h:DataW.Trod enc Try.prog W 0 (fun _=>true) true t (.slice a len cap) d ps):len*B≤140737488351232:=by
 obtain ⟨fuel,hf⟩:=h
 rcases Deep.open_slice hu hf with ⟨hcs,_⟩|⟨a',len',cap',m,n,D,Pl,hcs,_,hl,_,hmm,hx,_⟩
 ·
  replace hcs:[Value.slice a len cap]=[Value.slice none 0 0]:=hcs
  injection hcs with hcs
  injection hcs with _ h2 _
  subst h2
  simp
 ·
  replace hcs:[Value.slice a len cap]=[Value.slice (some a') len' cap']:=hcs
  injection hcs with hcs
  injection hcs with _ h2 _
  subst h2
  injection hx with hx _
  rw [hx] at hd
  have z:=sized_slice hsz ht hd hu
  rw [hB] at z
  have hrb:reachBytes=140737488351232:=by decide
  rw [hrb] at z
  simp only [List.length_map,List.length_range] at z
  exact Nat.le_trans (Nat.mul_le_mul_right _ (by omega)) z
theorem qqL {cs:Array Value} (h:DataW.Trod enc Try.prog W 0 (fun _=>true) true 39 (.agg cs) d ps):∃ (A0 A1 A2:Option Addr) (c0 c1 c2:Nat) (s:S39),cs=#[.slice A0 s.f0.length c0,.slice A1 s.f1.length c1,.slice A2 s.f2.length c2,.int .i64 s.f3,.int .i64 s.f4] ∧
  s.f0.length≤c0∧Kd.C (Kd.int .i64) W A0 s.f0.length s.f0∧s.f1.length≤c1∧Kd.C (Kd.int .i64) W A1 s.f1.length s.f1∧s.f2.length≤c2∧Kd.C (Kd.int .i64) W A2 s.f2.length s.f2∧W39 s:=by
 obtain ⟨fuel,hf⟩:=h
 obtain ⟨s,hk,hp⟩:=qm1 H enc W fuel _ _ hf
 obtain ⟨A0,c0,A1,c1,A2,c2,e,r⟩:=qg2 hk
 exact ⟨A0,A1,A2,c0,c1,c2,s,Array.toList_inj.1 e,r.1,r.2.1,r.2.2.1,r.2.2.2.1,r.2.2.2.2.1,r.2.2.2.2.2,hp⟩
theorem qfy {r:Reach} {base:Nat} {t e:TypeId} {n:Nat} {v:Value} (ht:Try.prog.underlying t=some (.array n e)) (h:Value.okWide Try.prog W r base t v):∃ cs,v = .agg cs:=by
 simp only [Value.okWide,ht] at h
 obtain ⟨cs,h1,_⟩:=h
 exact ⟨cs,h1⟩
theorem qqN {n:Nat} {t:TypeId} (ht:Try.prog.underlying t=some (.array n 3)) {fuel:Nat} {l:List Value} {x:DataW H × List MemPlace} (h:DataW.trod enc Try.prog W 0 (fun _=>true) true fuel t l=some x) :
  l.length=Try.prog.cellsOf t ∧ ∀ i v,i<n→l[i]? = some v → ∃ m,v = .int .i64 m∧Wf m:=by
 obtain ⟨xs,m,_,_,hl,hxl,hf⟩:=DataW.trod_array ht h
 refine ⟨hl,fun i v hi hv => ?_⟩
 have h1:=hf i hi
 rw [c3,Nat.mul_one] at h1
 obtain ⟨y,e⟩:=XX (by omega) h1
 obtain ⟨n',q,_,g⟩:=DataW.trod_int Try.underlying3 e
 obtain ⟨hil,hv'⟩:=List.getElem?_eq_some_iff.1 hv
 rw [List.drop_eq_getElem_cons hil,hv'] at q
 injection q with q
 exact ⟨n',q,g⟩
theorem qqM {cs:Array Value} (h:DataW.Trod enc Try.prog W 0 (fun _=>true) true 77 (.agg cs) d ps):∃ a b c:Int,cs=#[.int .i64 a,.int .i64 b,.int .i64 c]∧Wf a∧Wf b∧Wf c:=by
 obtain ⟨fuel,hf⟩:=h
 obtain ⟨hl,hat⟩:=qqN Try.underlying77 (show DataW.trod enc Try.prog W 0 (fun _=>true) true fuel 77 cs.toList=some (d,ps) from hf)
 rw [c77] at hl
 obtain ⟨a,b,c,e⟩:=qCo hl
 rw [e] at hat
 obtain ⟨m0,rfl,g0⟩:=hat 0 _ (by omega) rfl
 obtain ⟨m1,rfl,g1⟩:=hat 1 _ (by omega) rfl
 obtain ⟨m2,rfl,g2⟩:=hat 2 _ (by omega) rfl
 exact ⟨m0,m1,m2,Array.toList_inj.1 e,g0,g1,g2⟩
end
end Go.Proofs.Ytmhomdohhihlcaa.P
namespace Go.Proofs.Ytmhomdohhihlcaa.P
open Go.RowKit Go.Proofs.YtmhomdohhihlcaaW.PrintWords Go.Proofs.YtmhomdohhihlcaaW.PrintLast Go.Proofs.YtmhomdohhihlcaaW.PrintMore
section
attribute [local go_sem] Yv Yx YK YL Yn Yo Yw Yy
end
section
attribute [local go_sem] Yv Yx YK YL Yn Yo Yw Yy
end
section
attribute [local go_sem] Yv Yx YK YL Yn Yo Yw Yy
attribute [local go_sem high] qmb
end
section
theorem OS (a b c:Int):Qv.f a b c=some (wi a b c):=by
 unfold Qv.f wi
 by_cases h:b≤a
 ·
  rw [if_pos h];simp [h]
 ·
  rw [if_neg h];simp [h]
theorem qeP (a b c:Int):QQ.f a b c=some (wi a b c):=by
 unfold QQ.f wi
 by_cases h:b≤a
 ·
  rw [if_pos h];simp [h]
 ·
  rw [if_neg h];simp [h]
def sp (a b h:Int):Bool:=decide (0≤a∧a≤b∧b≤h)
theorem wr1 (i n:Nat) (h:i<n) (hn:(n:Int)≤9223372036854775807):wrap64 ((i:Int)+1)=((i+1:Nat):Int):=by unfold wrap64;omega
end
section
theorem rdI (l:List Int) (i:Nat) (h:i<l.length):rd l (i:Int)=l[i]:=by simp [rd,List.getD_eq_getElem?_getD,List.getElem?_eq_getElem h]
def vR (l0 l1 l2:List Int) (i:Nat):Bool:=wi (rd l0 i) 0 100000&&wi (rd l1 i) 0 1000&&wi (rd l2 i) 0 100
def aR (l0 l1 l2:List Int):Nat→Nat→Bool
 | 0,_=>true
 | d+1,i=>vR l0 l1 l2 i&&aR l0 l1 l2 d (i+1)
def isR (l0 l1 l2:List Int) (a3 a4:Int):Bool :=
 (wi (l0.length:Int) 1 6&&decide (l1.length=l0.length)&&decide (l2.length=l0.length)&&wi a3 0 100000000&&wi a4 0 ((l0.length:Int)-1))&&aR l0 l1 l2 l0.length 0
theorem qpX {l0 l1 l2:List Int}:∀ (d i:Nat),aR l0 l1 l2 d i=true → ∀ j,i≤j→j<i+d→vR l0 l1 l2 j=true
 | 0,i,_,j,h1,h2=>by omega
 | d+1,i,h,j,h1,h2=>by
  rw [aR,Bool.and_eq_true] at h
  by_cases hj:j=i
  ·
   rw [hj];exact h.1
  ·
   exact qpX d (i+1) h.2 j (by omega) (by omega)
theorem qmI {l0 l1 l2:List Int} {a3 a4:Int} (h:isR l0 l1 l2 a3 a4=true):okR l0 l1 l2 a4∧wi a3 0 100000000=true ∧ ∀ i,i<l0.length→vR l0 l1 l2 i=true:=by
 unfold isR at h
 simp only [Bool.and_eq_true,decide_eq_true_eq] at h
 obtain ⟨⟨⟨⟨⟨h1,h2⟩,h3⟩,h4⟩,h5⟩,h6⟩:=h
 have g1:=OA.1 h1
 have g5:=OA.1 h5
 exact ⟨⟨by omega,by omega,h2,h3,by omega,by omega⟩,h4,fun i hi=>qpX _ _ h6 i (by omega) (by omega)⟩
section
variable (l0 l1 l2:List Int) (a3 a4:Int)
theorem qbV:∀ (d i:Nat) (b:Bool),i+d=l0.length→(b=true→l1.length=l0.length∧l2.length=l0.length∧l0.length≤6)→Ev (fun k=>Qo.l0 k (l0.length:Int) b (i:Int) l0 l1 l2 a3 a4) (b&&aR l0 l1 l2 d i):=by
 intro d
 induction d with
 | zero =>
  intro i b hi hb
  rw [aR,Bool.and_true]
  refine Ev.step (f:=fun k=>Qo.j2 k (l0.length:Int) b (i:Int) false l0 l1 l2 a3 a4) (fun k => ?_) (Ev.step (f:=fun _=>some b) (fun k => ?_) (Ev.now _))
  ·
   simp only [Qo.l0]
   rw [decide_eq_false (by omega:¬ (i:Int)<(l0.length:Int))]
   cases b<;>rfl
  ·
   simp [Qo.j2]
 | succ d ih =>
  intro i b hi hb
  cases b with
  | false =>
   rw [Bool.false_and]
   refine Ev.step (f:=fun k=>Qo.j2 k (l0.length:Int) false (i:Int) false l0 l1 l2 a3 a4) (fun k => ?_) (Ev.step (f:=fun _=>some false) (fun k => ?_) (Ev.now _))
   ·
    simp [Qo.l0]
   ·
    simp [Qo.j2]
  | true =>
   obtain ⟨b1,b2,b3⟩:=hb rfl
   have hlt:i<l0.length:=by omega
   rw [Bool.true_and,aR]
   refine Ev.step (f:=fun k=>Qo.j2 k (l0.length:Int) true (i:Int) true l0 l1 l2 a3 a4) (fun k => ?_) ?_
   ·
    simp only [Qo.l0];rw [decide_eq_true (by omega:(i:Int)<(l0.length:Int))];rfl
   ·
    refine Ev.step (f:=fun k=>Qo.l0 k (l0.length:Int) (vR l0 l1 l2 i) ((i+1:Nat):Int) l0 l1 l2 a3 a4) (fun k => ?_) (ih (i+1) _ (by omega) (fun _=>⟨b1,b2,b3⟩));have hw:=wr1 i l0.length hlt (by omega);simp only [Qo.j2,OS,Option.bind_some,hw];rw [if_pos trivial,if_pos (by omega),if_pos (by omega)];unfold vR
    cases h1:wi (rd l0 i) 0 100000 with
    | false=>simp
    | true =>
     rw [if_pos rfl,if_pos (by omega)]
     cases h2:wi (rd l1 i) 0 1000 with
     | false=>simp
     | true=>rw [if_pos rfl,if_pos (by omega)];simp
theorem qle:Ev (fun k=>Qo.f k l0 l1 l2 a3 a4) (isR l0 l1 l2 a3 a4):=by
 have H:∀ b:Bool,(b=true→l1.length=l0.length∧l2.length=l0.length∧l0.length≤6)→Ev (fun k=>Qo.j0 k (l0.length:Int) b l0 l1 l2 a3 a4) (b&&aR l0 l1 l2 l0.length 0):=fun b hb =>
  Ev.step (f:=fun k=>Qo.l0 k (l0.length:Int) b ((0:Nat):Int) l0 l1 l2 a3 a4) (fun k=>by simp [Qo.j0]) (qbV l0 l1 l2 a3 a4 l0.length 0 b (by omega) hb)
 have HF:=H false (fun h=>by simp at h)
 unfold isR
 simp only [Qo.f,OS,Option.bind_some]
 cases h1:wi (l0.length:Int) 1 6 with
 | false=>simpa using HF
 | true =>
  have g1:=OA.1 h1
  have hw:wrap64 ((l0.length:Int)-1)=(l0.length:Int)-1:=by unfold wrap64;omega
  by_cases h2:l1.length=l0.length
  ·
   by_cases h3:l2.length=l0.length
   ·
    cases h4:wi a3 0 100000000 with
    | false=>simpa [h2,h3] using HF
    | true =>
     simp only [h2,h3,hw,if_true,decide_true,Bool.true_and,Bool.and_true]
     exact H _ (fun _=>⟨h2,h3,by omega⟩)
   ·
    have h3':¬ (l2.length:Int)=(l0.length:Int):=by omega
    simpa [h2,h3,h3'] using HF
  ·
   have h2':¬ (l1.length:Int)=(l0.length:Int):=by omega
   simpa [h2,h2'] using HF
end
def plL (m:Nat) (mesh:Int) (keep spawn tk rc:List Int):Nat→Nat→List Int→List Int→List Int
 | 0,_,_,acc=>acc
 | d+1,i,n,acc=>plL m mesh keep spawn tk rc d (i+1) (Gd m mesh keep spawn n (rd tk i) (rd rc i)).2 (acc++[(Gd m mesh keep spawn n (rd tk i) (rd rc i)).1])
theorem six {l:List Int} (h:l.length=6):[rd l 0,rd l 1,rd l 2,rd l 3,rd l 4,rd l 5]=l:=by
 rcases l with _|⟨a,_|⟨b,_|⟨c,_|⟨d,_|⟨e,_|⟨f,_|⟨g,l⟩⟩⟩⟩⟩⟩⟩<;>simp at h
 rfl
section
variable (l0 l1 l2:List Int) (a3 a4:Int) (ho:okR l0 l1 l2 a4) (tk rc:List Int) (hlen:rc.length=tk.length) (h10:tk.length≤10)
include ho hlen h10
theorem qej:∀ (d i:Nat) (n acc:List Int),n.length=6→acc.length=i→i+d=tk.length→Ev (fun k=>Qy.l1 k tk rc acc (tk.length:Int) (i:Int) l0 l1 l2 a3 a4 (rd n 0) (rd n 1) (rd n 2) (rd n 3) (rd n 4) (rd n 5)) (plL l0.length a4 l1 l2 tk rc d i n acc,0):=by
 intro d
 induction d with
 | zero =>
  intro i n acc hn ha hi
  refine Ev.step (f:=fun _=>some (acc,0)) (fun k => ?_) (Ev.now _)
  simp only [Qy.l1]
  rw [if_neg (by omega),if_pos (by omega),if_pos (by omega),Int.toNat_natCast,List.take_length]
 | succ d ih =>
  intro i n acc hn ha hi
  have h6:=qeH l0.length a4 l1 l2 n (rd tk i) (rd rc i)
  refine Ev.step (f:=fun k=>Qy.l1 k tk rc (acc++[(Gd l0.length a4 l1 l2 n (rd tk i) (rd rc i)).1]) (tk.length:Int) ((i+1:Nat):Int) l0 l1 l2 a3 a4 (rd (Gd l0.length a4 l1 l2 n (rd tk i) (rd rc i)).2 0) (rd (Gd l0.length a4 l1 l2 n (rd tk i) (rd rc i)).2 1) (rd (Gd l0.length a4 l1 l2 n (rd tk i) (rd rc i)).2 2) (rd (Gd l0.length a4 l1 l2 n (rd tk i) (rd rc i)).2 3) (rd (Gd l0.length a4 l1 l2 n (rd tk i) (rd rc i)).2 4) (rd (Gd l0.length a4 l1 l2 n (rd tk i) (rd rc i)).2 5)) (fun k => ?_) (ih (i+1) _ _ h6 (by simp;omega) (by omega))
  have hw:=wr1 i tk.length (by omega) (by omega)
  simp only [Qy.l1,hw,Zl.f,six hn]
  rw [if_pos (by omega),if_pos (by omega),if_pos (by omega),if_pos (by omega),if_pos ho,Option.bind_some,if_pos (by omega)]
def tR (tk rc:List Int):Nat→Nat→Bool
 | 0,_=>true
 | d+1,i=>(wi (rd tk i) 0 100000000&&wi (rd rc i) 0 100000)&&tR tk rc d (i+1)
omit ho hlen h10 in
theorem qmn (h6:l0.length≤6):Z6.f l0 l1 l2 a3 a4=some (rd l0 0,rd l0 1,rd l0 2,rd l0 3,rd l0 4,rd l0 5):=by
 unfold Z6.f;rw [if_pos h6]
def plV (l0 l1 l2:List Int) (a4:Int) (tk rc:List Int):List Int:=plL l0.length a4 l1 l2 tk rc tk.length 0 [rd l0 0,rd l0 1,rd l0 2,rd l0 3,rd l0 4,rd l0 5] []
def qbP (l0 l1 l2:List Int) (a4:Int) (tk rc:List Int) (b:Bool):List Int × Int:=if b=true then (plV l0 l1 l2 a4 tk rc,0) else ([],92)
theorem Xw (b:Bool) (i:Int):Ev (fun k=>Qy.j2 k tk rc b i false l0 l1 l2 a3 a4) (qbP l0 l1 l2 a4 tk rc b):=by
 cases b with
 | false =>
  refine Ev.step (f:=fun _=>some ([],92)) (fun k => ?_) (Ev.now _)
  simp [Qy.j2]
 | true =>
  refine Ev.step (f:=fun k=>Qy.l1 k tk rc [] (tk.length:Int) ((0:Nat):Int) l0 l1 l2 a3 a4 (rd l0 0) (rd l0 1) (rd l0 2) (rd l0 3) (rd l0 4) (rd l0 5)) (fun k => ?_) (qej l0 l1 l2 a3 a4 ho tk rc hlen h10 tk.length 0 [rd l0 0,rd l0 1,rd l0 2,rd l0 3,rd l0 4,rd l0 5] [] rfl rfl (by omega))
  simp only [Qy.j2]
  rw [if_neg (by decide),if_pos trivial,qmn l0 l1 l2 a3 a4 ho.2.1]
  rfl
theorem qei:∀ (d i:Nat) (b:Bool),i+d=tk.length→Ev (fun k=>Qy.l0 k tk rc b (i:Int) l0 l1 l2 a3 a4) (qbP l0 l1 l2 a4 tk rc (b&&tR tk rc d i)):=by
 intro d
 induction d with
 | zero =>
  intro i b hi
  rw [tR,Bool.and_true]
  refine Ev.step (f:=fun k=>Qy.j2 k tk rc b (i:Int) false l0 l1 l2 a3 a4) (fun k => ?_) (Xw l0 l1 l2 a3 a4 ho tk rc hlen h10 b i)
  simp only [Qy.l0]
  rw [decide_eq_false (by omega:¬ (i:Int)<(tk.length:Int))]
  cases b<;>rfl
 | succ d ih =>
  intro i b hi
  cases b with
  | false =>
   rw [Bool.false_and]
   refine Ev.step (f:=fun k=>Qy.j2 k tk rc false (i:Int) false l0 l1 l2 a3 a4) (fun k => ?_) (Xw l0 l1 l2 a3 a4 ho tk rc hlen h10 false i)
   simp [Qy.l0]
  | true =>
   have hlt:i<tk.length:=by omega
   rw [Bool.true_and,tR]
   refine Ev.step (f:=fun k=>Qy.j2 k tk rc true (i:Int) true l0 l1 l2 a3 a4) (fun k => ?_) ?_
   ·
    simp only [Qy.l0];rw [decide_eq_true (by omega:(i:Int)<(tk.length:Int))];rfl
   ·
    refine Ev.step (f:=fun k=>Qy.l0 k tk rc (wi (rd tk i) 0 100000000&&wi (rd rc i) 0 100000) ((i+1:Nat):Int) l0 l1 l2 a3 a4) (fun k => ?_) (ih (i+1) _ (by omega));have hw:=wr1 i tk.length hlt (by omega);simp only [Qy.j2,OS,Option.bind_some,hw];rw [if_pos trivial,if_pos (by omega),if_pos (by omega)]
    cases h1:wi (rd tk i) 0 100000000 with
    | false=>simp
    | true =>
     rw [if_pos rfl,if_pos (by omega)]
     simp
end
theorem qrz (tk rc:List Int) (h:rc.length=tk.length):∀ (d i:Nat),i+d=tk.length→tR tk rc d i=((tk.drop i).all (fun x=>wi x 0 100000000)&&(rc.drop i).all (fun x=>wi x 0 100000)):=by
 intro d
 induction d with
 | zero=>intro i hi;rw [List.drop_eq_nil_of_le (by omega),List.drop_eq_nil_of_le (by omega),tR];rfl
 | succ d ih =>
  intro i hi
  have h1:i<tk.length:=by omega
  have h2:i<rc.length:=by omega
  rw [List.drop_eq_getElem_cons h1,List.drop_eq_getElem_cons h2,List.all_cons,List.all_cons,tR,ih (i+1) (by omega),rdI tk i h1,rdI rc i h2]
  cases wi tk[i] 0 100000000<;>cases wi rc[i] 0 100000<;>simp
def plOk (s:S39) (tk rc:List Int):Bool:=isR s.f0 s.f1 s.f2 s.f3 s.f4&&wi (tk.length:Int) 1 10&&((rc.length:Int)==(tk.length:Int))&&(tk.all (fun x=>wi x 0 100000000)&&rc.all (fun x=>wi x 0 100000))
theorem qdX (l0 l1 l2:List Int) (a3 a4:Int) (tk rc:List Int):Ev (fun k=>Qy.j0 k tk rc false l0 l1 l2 a3 a4) ([],92):=by
 refine Ev.step (f:=fun k=>Qy.l0 k tk rc false 0 l0 l1 l2 a3 a4) (fun k=>by simp [Qy.j0]) ?_
 refine Ev.step (f:=fun k=>Qy.j2 k tk rc false 0 false l0 l1 l2 a3 a4) (fun k=>by simp [Qy.l0]) ?_
 refine Ev.step (f:=fun _=>some ([],92)) (fun k => ?_) (Ev.now _)
 simp [Qy.j2]
theorem Wn (s:S39) (tk rc:List Int):Ev (fun k=>Qy.f k s.f0 s.f1 s.f2 s.f3 s.f4 tk rc) (qbP s.f0 s.f1 s.f2 s.f4 tk rc (plOk s tk rc)):=by
 refine Ev.bind (qle s.f0 s.f1 s.f2 s.f3 s.f4) ?_
 have HF:=qdX s.f0 s.f1 s.f2 s.f3 s.f4 tk rc
 unfold plOk
 simp only [OS,Option.bind_some]
 cases h1:isR s.f0 s.f1 s.f2 s.f3 s.f4 with
 | false=>simpa [qbP] using HF
 | true =>
  cases h2:wi (tk.length:Int) 1 10 with
  | false=>simpa [qbP] using HF
  | true =>
   by_cases h3:rc.length=tk.length
   ·
    have g2:=OA.1 h2
    have e3:((rc.length:Int)==(tk.length:Int))=true:=by simp [h3]
    rw [e3];have h:=qei s.f0 s.f1 s.f2 s.f3 s.f4 (qmI h1).1 tk rc h3 (by omega) tk.length 0 true (by omega);rw [qrz tk rc h3 tk.length 0 (by omega)] at h;refine Ev.step (f:=fun k=>Qy.l0 k tk rc true ((0:Nat):Int) s.f0 s.f1 s.f2 s.f3 s.f4) (fun k => ?_) h
    simp [Qy.j0]
   ·
    have e3:((rc.length:Int)==(tk.length:Int))=false:=by simp;omega
    rw [e3]
    simpa [qbP] using HF
end
section
theorem Xv (n:List Int) (j i:Nat) (x:Int) (hj:j<n.length):rd (n.set j x) (i:Int)=if i=j then x else rd n (i:Int):=by
 simp only [rd,Int.toNat_natCast,List.getD_eq_getElem?_getD,List.getElem?_set]
 by_cases h:i=j
 ·
  subst h;simp [hj]
 ·
  rw [if_neg h,if_neg (fun e=>h e.symm)]
theorem qiL (n:List Int) (i:Nat) (h:n.length≤i):rd n (i:Int)=0:=by
 simp [rd,List.getD_eq_getElem?_getD,List.getElem?_eq_none h]
def Les (M:Int) (a b:List Int):Prop:=∀ i:Nat,0≤rd a i∧rd a i≤rd b i∧rd b i≤M
theorem qm2 (x y t u M:Int) (hM:M≤10000000000000) (h0:0≤x) (h1:x≤y) (h2:y≤M) (t0:0≤u) (t1:u≤t) (t2:t≤10000000000000) :
  0≤wrap64 (x-mn x t)∧wrap64 (x-mn x t)≤wrap64 (y-mn y u)∧wrap64 (y-mn y u)≤M∧0≤wrap64 (u-mn y u)∧wrap64 (u-mn y u)≤wrap64 (t-mn x t)∧wrap64 (t-mn x t)≤10000000000000:=by
 have e:∀ z:Int,-10000000000000≤z→z≤10000000000000→wrap64 z=z:=fun z g1 g2=>by unfold wrap64;omega
 have m1:mn x t=x∧x≤t∨mn x t=t∧t<x:=by unfold mn;split<;>omega
 have m2:mn y u=y∧y≤u∨mn y u=u∧u<y:=by unfold mn;split<;>omega
 rcases m1 with ⟨a1,a2⟩|⟨a1,a2⟩<;>rcases m2 with ⟨c1,c2⟩|⟨c1,c2⟩<;>rw [a1,c1]<;>rw [e _ (by omega) (by omega),e _ (by omega) (by omega),e _ (by omega) (by omega),e _ (by omega) (by omega)]<;>omega
theorem qao (mesh M:Int) (hM:M≤10000000000000):∀ (j:Nat) (a b:List Int) (t u:Int),a.length=6→b.length=6→j≤6→Les M a b→0≤u→u≤t→t≤10000000000000→Les M (Kv mesh j a t).1 (Kv mesh j b u).1
 | 0,a,b,t,u,_,_,_,h,_,_,_=>h
 | j+1,a,b,t,u,ha,hb,hj,h,u0,ut,t1=>by
  rw [Kv,Kv]
  by_cases c:mesh≤(j:Int)
  ·
   rw [if_pos c,if_pos c]
   obtain ⟨g1,g2,g3⟩:=h j
   obtain ⟨k1,k2,k3,k4,k5,k6⟩:=qm2 (rd a j) (rd b j) t u M hM g1 g2 g3 u0 ut t1
   refine qao mesh M hM j _ _ _ _ (by rw [List.length_set];exact ha) (by rw [List.length_set];exact hb) (by omega) (fun i => ?_) k4 k5 k6
   rw [Xv a j i _ (by omega),Xv b j i _ (by omega)]
   by_cases e:i=j
   ·
    rw [if_pos e,if_pos e];exact ⟨k1,k2,k3⟩
   ·
    rw [if_neg e,if_neg e];exact h i
  ·
   rw [if_neg c,if_neg c];exact h
theorem qeA {x y s M:Int} (h0:0≤x) (h1:x≤y) (h2:y≤M) (hM:M≤10000000000000) (s0:0≤s) (s1:s≤1000):0≤wrap64 (x*s)∧wrap64 (x*s)≤wrap64 (y*s)∧wrap64 (y*s)≤M*s∧wrap64 (x*s)=x*s∧wrap64 (y*s)=y*s:=by
 have a1:0≤x*s:=Int.mul_nonneg h0 s0
 have a2:x*s≤y*s:=Int.mul_le_mul_of_nonneg_right h1 s0
 have a3:y*s≤M*s:=Int.mul_le_mul_of_nonneg_right h2 s0
 have a4:M*s≤10000000000000*1000:=Int.mul_le_mul hM s1 s0 (by decide)
 have e:∀ z:Int,0≤z→z≤10000000000000000→wrap64 z=z:=fun z g1 g2=>by unfold wrap64;omega
 rw [e _ a1 (by omega),e _ (by omega) (by omega)]
 exact ⟨a1,a2,a3,rfl,rfl⟩
theorem qdY (a b sp:List Int) (M:Int) (hM:M≤10000000000000) (h:Les M a b):∀ (L:List Nat) (s z:Int),(∀ i∈L,0≤rd sp i∧rd sp i≤1000)→L.length≤6→0≤s→s≤z→z≤10000000000000000*(6-L.length) →
  (L.map fun i:Nat=>wrap64 (rd a i*rd sp i)).foldl (fun s x=>wrap64 (s+x)) s≤(L.map fun i:Nat=>wrap64 (rd b i*rd sp i)).foldl (fun s x=>wrap64 (s+x)) z
 | [],s,z,_,_,_,h2,_=>h2
 | i::L,s,z,hs,hl,h1,h2,h3=>by
  obtain ⟨g1,g2,g3⟩:=h i
  obtain ⟨p0,p1⟩:=hs i (by simp)
  obtain ⟨k1,k2,k3,k4,k5⟩:=qeA g1 g2 g3 hM p0 p1
  have k6:M*rd sp i≤10000000000000*1000:=Int.mul_le_mul hM p1 p0 (by decide)
  simp only [List.map_cons,List.foldl_cons]
  simp only [List.length_cons] at hl h3
  have e:∀ z:Int,0≤z→z≤60000000000000000→wrap64 z=z:=fun z g1 g2=>by unfold wrap64;omega
  obtain ⟨X,hX⟩:∃ X,wrap64 (rd a i*rd sp i)=X:=⟨_,rfl⟩
  obtain ⟨Z,hZ⟩:∃ Z,wrap64 (rd b i*rd sp i)=Z:=⟨_,rfl⟩
  rw [hX] at k1 k2 ⊢
  rw [hZ] at k2 k3 ⊢
  obtain ⟨n,hn⟩:∃ n,L.length=n:=⟨_,rfl⟩
  rw [hn] at hl h3
  rw [e (s+X) (by omega) (by omega),e (z+Z) (by omega) (by omega)]
  exact qdY a b sp M hM h L (s+X) (z+Z) (fun i hi=>hs i (by simp [hi])) (by omega) (by omega) (by omega) (by rw [hn];omega)
theorem qeC (m:Nat) (h1:1≤m) (h6:m≤6) (a b kp:List Int) (M:Int) (hM0:0≤M) (hM:M≤1500000000000) (h:Les M a b) (hk:∀ i:Nat,i<m→0≤rd kp i∧rd kp i≤1000):∀ k:Nat,k≤m→Les (M*k) (Oe ((m:Int)-1) a kp k) (Oe ((m:Int)-1) b kp k)
 | 0,_=>fun i=>by
  have e:rd (Oe ((m:Int)-1) a kp 0) i=0:=by
   have:∀ i:Nat,rd [0,0,0,0,0,0] (i:Int)=0:=fun i=>by
    rcases (by omega:i=0∨i=1∨i=2∨i=3∨i=4∨i=5∨6≤i) with h|h|h|h|h|h|h
    any_goals (subst h;rfl)
    exact qiL _ i (by simpa using h)
   exact this i
  have e2:rd (Oe ((m:Int)-1) b kp 0) i=0:=e
  rw [e,e2]
  simp
 | k+1,hkm=>fun i=>by
  have ih:=qeC m h1 h6 a b kp M hM0 hM h hk k (by omega)
  obtain ⟨q,hq,hqm⟩:∃ q:Nat,mn ((k:Int)+1) ((m:Int)-1)=(q:Int)∧q<m:=by
   refine ⟨(mn ((k:Int)+1) ((m:Int)-1)).toNat,?_,?_⟩<;>unfold mn<;>split<;>omega
  obtain ⟨g1,g2,g3⟩:=h k
  obtain ⟨p0,p1⟩:=hk k (by omega)
  obtain ⟨k1,k2,k3,k4,k5⟩:=qeA g1 g2 g3 (by omega:M≤10000000000000) p0 p1
  obtain ⟨i1,i2,i3⟩:=ih q
  obtain ⟨j1,j2,j3⟩:=ih i
  have hMk:0≤M*(k:Int):=Int.mul_nonneg hM0 (Int.natCast_nonneg k)
  have qBJ:M*(k:Int)≤1500000000000*6:=Int.mul_le_mul hM (by omega) (Int.natCast_nonneg k) (by decide)
  have eM:M*((k+1:Nat):Int)=M*(k:Int)+M:=by rw [Int.natCast_add,Int.mul_add];simp
  rw [Oe,Oe,hq,Int.toNat_natCast,Xv _ q i _ (by rw [O0];omega),Xv _ q i _ (by rw [O0];omega),eM]
  have hu:rd b k*rd kp k≤rd b k*1000:=Int.mul_le_mul_of_nonneg_left p1 (by omega)
  rw [k4,k5]
  rw [k4] at k1 k2
  rw [k5] at k2 k3
  obtain ⟨X,hX⟩:∃ X,rd a k*rd kp k=X:=⟨_,rfl⟩
  obtain ⟨Z,hZ⟩:∃ Z,rd b k*rd kp k=Z:=⟨_,rfl⟩
  rw [hX] at k1 k2 ⊢
  rw [hZ] at k2 k3 hu ⊢
  rw [Int.tdiv_eq_ediv_of_nonneg k1,Int.tdiv_eq_ediv_of_nonneg (by omega)]
  obtain ⟨Q,hQ⟩:∃ Q,M*(k:Int)=Q:=⟨_,rfl⟩
  rw [hQ] at hMk qBJ i3 j3 ⊢
  have e:∀ z:Int,0≤z→z≤60000000000000000→wrap64 z=z:=fun z g1 g2=>by unfold wrap64;omega
  rw [e (X / 1000) (by omega) (by omega),e (Z / 1000) (by omega) (by omega),e _ (by omega) (by omega),e _ (by omega) (by omega)]
  by_cases c:i=q
  ·
   rw [if_pos c,if_pos c];omega
  ·
   rw [if_neg c,if_neg c];omega
def Mb:Nat→Int
 | 0=>100000
 | y+1=>Mb y*6+100000
theorem XE:∀ y,0≤Mb y
 | 0=>by decide
 | y+1=>by have:=XE y;rw [Mb];omega
theorem qdy (y:Nat) (h:y≤9):Mb y≤1500000000000:=by
 rcases (by omega:y=0∨y=1∨y=2∨y=3∨y=4∨y=5∨y=6∨y=7∨y=8∨y=9) with h|h|h|h|h|h|h|h|h|h<;>subst h<;>decide
end
section
attribute [local go_sem] Yv Yx YK YL Yn Yo Yw Yy
end
section
attribute [local go_sem] Yv Yx YK YL Yn Yo Yw Yy
end
section
attribute [local go_sem] Yv Yx YK YL Yn Yo Yw Yy
end
section
attribute [local go_sem] Yv Yx YK YL Yn Yo Yw Yy
end
section
attribute [local go_sem] Yv Yx YK YL Yn Yo Yw Yy
end
section
attribute [local go_sem] Yv Yx YK YL Yn Yo Yw Yy
end
section
attribute [local go_sem] Yv Yx YK YL Yn Yo Yw Yy
end
section
attribute [local go_sem] Yv Yx YK YL Yn Yo Yw Yy
end
section
def isS (s:S39):Bool:=isR s.f0 s.f1 s.f2 s.f3 s.f4
end
section
def upd (B:Nat × Nat→Int) (b:Int × Int × Int) (p:Nat × Nat):Int × Int × Int :=
 if B p≥0 then (if b.2.2<0 then ((p.1:Int),(p.2:Int),B p) else (if B p<b.2.2 then ((p.1:Int),(p.2:Int),B p) else b)) else b
end
section
attribute [local go_sem] Yv Yx YK YL Yn Yo Yw Yy
end
section
attribute [local go_sem] Yv Yx YK YL Yn Yo Yw Yy
end
section
def sttL (s:S39) (tks rc:List Int):Nat→List Int
 | 0=>[rd s.f0 0,rd s.f0 1,rd s.f0 2,rd s.f0 3,rd s.f0 4,rd s.f0 5]
 | i+1=>(Gd s.f0.length s.f4 s.f1 s.f2 (sttL s tks rc i) (rd tks i) (rd rc i)).2
def spwL (s:S39) (tks rc:List Int) (i:Nat):Int:=(Gd s.f0.length s.f4 s.f1 s.f2 (sttL s tks rc i) (rd tks i) (rd rc i)).1
theorem Xx (s:S39) (tks rc:List Int):∀ i,(sttL s tks rc i).length=6
 | 0=>rfl
 | i+1=>qeH _ _ _ _ _ _ _
theorem qmU (s:S39) (tks rc:List Int):∀ (d i:Nat) (acc:List Int),plL s.f0.length s.f4 s.f1 s.f2 tks rc d i (sttL s tks rc i) acc=acc++(List.range' i d).map (spwL s tks rc):=by
 intro d
 induction d with
 | zero=>intro i acc;simp [plL]
 | succ d ih =>
  intro i acc
  rw [plL]
  have:=ih (i+1) (acc++[spwL s tks rc i])
  rw [show (Gd s.f0.length s.f4 s.f1 s.f2 (sttL s tks rc i) (rd tks i) (rd rc i)).2=sttL s tks rc (i+1) from rfl,show (Gd s.f0.length s.f4 s.f1 s.f2 (sttL s tks rc i) (rd tks i) (rd rc i)).1=spwL s tks rc i from rfl,this,List.range'_succ]
  simp
theorem qfu {s:S39} (hs:isS s=true):1≤s.f0.length∧s.f0.length≤6 ∧ ∀ i:Nat,i<s.f0.length→(0≤rd s.f0 i∧rd s.f0 i≤100000)∧(0≤rd s.f1 i∧rd s.f1 i≤1000)∧0≤rd s.f2 i∧rd s.f2 i≤1000:=by
 obtain ⟨⟨o1,o2,_⟩,_,hv⟩:=qmI hs
 refine ⟨o1,o2,fun i hi => ?_⟩
 have h:=hv i hi
 unfold vR at h
 simp only [Bool.and_eq_true] at h
 have a:=OA.1 h.1.1
 have b:=OA.1 h.1.2
 have c:=OA.1 h.2
 exact ⟨a,b,c.1,by omega⟩
theorem qld {s:S39} (hs:isS s=true):Les 100000 [rd s.f0 0,rd s.f0 1,rd s.f0 2,rd s.f0 3,rd s.f0 4,rd s.f0 5] [rd s.f0 0,rd s.f0 1,rd s.f0 2,rd s.f0 3,rd s.f0 4,rd s.f0 5]:=by
 obtain ⟨_,o2,hv⟩:=qfu hs
 have h:∀ i:Nat,0≤rd s.f0 i∧rd s.f0 i≤100000:=fun i=>by
  by_cases hi:i<s.f0.length
  ·
   exact (hv i hi).1
  ·
   rw [qiL _ i (by omega)];decide
 intro i
 have e:rd [rd s.f0 0,rd s.f0 1,rd s.f0 2,rd s.f0 3,rd s.f0 4,rd s.f0 5] (i:Int)=if i<6 then rd s.f0 (i:Int) else 0:=by
  rcases (by omega:i=0∨i=1∨i=2∨i=3∨i=4∨i=5∨6≤i) with h|h|h|h|h|h|h
  any_goals (subst h;rfl)
  rw [qiL _ i (by simpa using h),if_neg (by omega)]
 rw [e]
 split
 ·
  exact ⟨(h i).1,Int.le_refl _,(h i).2⟩
 ·
  decide
end
section
theorem qdW (m:Nat) (h1:1≤m) (h6:m≤6) (mesh:Int) (kp sp a b:List Int) (M t u r q:Int) (ha:a.length=6) (hb:b.length=6) (hM0:0≤M) (hM:M≤1500000000000) (h:Les M a b) (hk:∀ i:Nat,i<m→0≤rd kp i∧rd kp i≤1000) (hs:∀ i:Nat,i<m→0≤rd sp i∧rd sp i≤1000) (u0:0≤u) (ut:u≤t) (t1:t≤10000000000000) (r0:0≤r) (rq:r≤q) (q1:q≤100000) :
  (Gd m mesh kp sp a t r).1≤(Gd m mesh kp sp b u q).1∧Les (M*6+100000) (Gd m mesh kp sp a t r).2 (Gd m mesh kp sp b u q).2:=by
 have hc:=qao mesh M (by omega) m a b t u ha hb h6 h u0 ut t1
 constructor
 ·
  exact qdY _ _ sp M (by omega) hc (List.range m) 0 0 (fun i hi=>hs i (List.mem_range.1 hi)) (by simpa using h6) (by decide) (by decide) (by rw [List.length_range];omega)
 ·
  intro i
  have hn:=qeC m h1 h6 _ _ kp M hM0 hM hc hk m (Nat.le_refl _)
  have hMm:M*(m:Int)≤M*6:=Int.mul_le_mul_of_nonneg_left (by omega) hM0
  obtain ⟨n1,n2,n3⟩:=hn i
  obtain ⟨z1,z2,z3⟩:=hn 0
  have e0:∀ l:List Int,rd l ((0:Nat):Int)=rd l 0:=fun l=>rfl
  rw [e0] at z1 z2
  rw [e0] at z2 z3
  have e:∀ z:Int,0≤z→z≤60000000000000000→wrap64 z=z:=fun z g1 g2=>by unfold wrap64;omega
  unfold Gd
  simp only
  rw [Xv _ 0 i _ (by rw [O0];omega),Xv _ 0 i _ (by rw [O0];omega)]
  by_cases c:i=0
  ·
   rw [if_pos c,if_pos c,e _ (by omega) (by omega),e _ (by omega) (by omega)]
   omega
  ·
   rw [if_neg c,if_neg c]
   omega
theorem qiQ (m:Nat) (mesh:Int) (kp sp a:List Int) (t r q:Int):(Gd m mesh kp sp a t r).1=(Gd m mesh kp sp a t q).1:=rfl
theorem qqt (sp:List Int):∀ (L:List Nat),(L.map fun i:Nat=>wrap64 (rd [] (i:Int)*rd sp (i:Int))).foldl (fun s x=>wrap64 (s+x)) 0=0
 | []=>rfl
 | i::L=>by
  have e:wrap64 (rd [] (i:Int)*rd sp (i:Int))=0:=by
   have:rd [] (i:Int)=0:=by simp [rd]
   rw [this,Int.zero_mul]
   unfold wrap64
   omega
  rw [List.map_cons,List.foldl_cons,e]
  have e2:wrap64 (0+0)=0:=by unfold wrap64;omega
  rw [e2]
  exact qqt sp L
theorem qhk (m:Nat) (h1:1≤m) (h6:m≤6) (mesh:Int) (kp sp b:List Int) (M u q:Int) (hb:b.length=6) (hM0:0≤M) (hM:M≤1500000000000) (h:Les M b b) (hs:∀ i:Nat,i<m→0≤rd sp i∧rd sp i≤1000) (u0:0≤u) (u1:u≤10000000000000) :
  0≤(Gd m mesh kp sp b u q).1:=by
 have hc:=qao mesh M (by omega) m b b u u hb hb h6 h u0 (Int.le_refl _) u1
 have hz:Les M [] (Kv mesh m b u).1:=fun i=>by
  obtain ⟨c1,c2,c3⟩:=hc i
  have:rd [] (i:Int)=0:=by simp [rd]
  rw [this]
  exact ⟨Int.le_refl _,c1,c3⟩
 have:=qdY _ _ sp M (by omega) hz (List.range m) 0 0 (fun i hi=>hs i (List.mem_range.1 hi)) (by simpa using h6) (by decide) (by decide) (by rw [List.length_range];omega)
 rw [qqt] at this
 exact this
section
variable {s:S39} (hs:isS s=true) {t1 t2 r1 r2:List Int} (n:Nat) (hn:n≤10) (ht:∀ i:Nat,i<n→0≤rd t2 i∧rd t2 i≤rd t1 i∧rd t1 i≤10000000000000) (hr:∀ i:Nat,i<n→0≤rd r1 i∧rd r1 i≤rd r2 i∧rd r2 i≤100000)
include hs hn ht hr
theorem qm8:∀ y:Nat,y<n→Les (Mb y) (sttL s t1 r1 y) (sttL s t2 r2 y)
 | 0,_=>qld hs
 | y+1,hy=>by
  obtain ⟨o1,o2,hv⟩:=qfu hs
  obtain ⟨a0,a1,a2⟩:=ht y (by omega)
  obtain ⟨b0,b1,b2⟩:=hr y (by omega)
  exact (qdW s.f0.length o1 o2 s.f4 s.f1 s.f2 _ _ (Mb y) (rd t1 y) (rd t2 y) (rd r1 y) (rd r2 y) (Xx s t1 r1 y) (Xx s t2 r2 y) (XE y) (qdy y (by omega)) (qm8 y (by omega)) (fun i hi=>(hv i hi).2.1) (fun i hi=>(hv i hi).2.2) a0 a1 a2 b0 b1 b2).2
theorem qhi (y:Nat) (hy:y<n):spwL s t1 r1 y≤spwL s t2 r2 y:=by
 obtain ⟨o1,o2,hv⟩:=qfu hs
 obtain ⟨a0,a1,a2⟩:=ht y hy
 obtain ⟨b0,b1,b2⟩:=hr y hy
 exact (qdW s.f0.length o1 o2 s.f4 s.f1 s.f2 _ _ (Mb y) (rd t1 y) (rd t2 y) (rd r1 y) (rd r2 y) (Xx s t1 r1 y) (Xx s t2 r2 y) (XE y) (qdy y (by omega)) (qm8 hs n hn ht hr y hy) (fun i hi=>(hv i hi).2.1) (fun i hi=>(hv i hi).2.2) a0 a1 a2 b0 b1 b2).1
end
theorem qiP {s:S39} (hs:isS s=true) {t1 r1:List Int} (n:Nat) (hn:n≤10) (ht:∀ i:Nat,i<n→0≤rd t1 i∧rd t1 i≤10000000000000) (hr:∀ i:Nat,i<n→0≤rd r1 i∧rd r1 i≤100000) (y:Nat) (hy:y<n):0≤spwL s t1 r1 y:=by
 obtain ⟨o1,o2,hv⟩:=qfu hs
 have h:=qm8 (t1:=t1) (t2:=t1) (r1:=r1) (r2:=r1) hs n hn (fun i hi=>⟨(ht i hi).1,Int.le_refl _,(ht i hi).2⟩) (fun i hi=>⟨(hr i hi).1,Int.le_refl _,(hr i hi).2⟩) y hy
 exact qhk s.f0.length o1 o2 s.f4 s.f1 s.f2 _ (Mb y) (rd t1 y) (rd r1 y) (Xx s t1 r1 y) (XE y) (qdy y (by omega)) h (fun i hi=>(hv i hi).2.2) (ht y hy).1 (ht y hy).2
theorem qhl (s:S39) (t1 t2 r1 r2:List Int):∀ y:Nat,(∀ i:Nat,i<y→rd t1 (i:Int)=rd t2 (i:Int)∧rd r1 (i:Int)=rd r2 (i:Int))→sttL s t1 r1 y=sttL s t2 r2 y
 | 0,_=>rfl
 | y+1,h=>by rw [sttL,sttL,qhl s t1 t2 r1 r2 y (fun i hi=>h i (by omega)),(h y (by omega)).1,(h y (by omega)).2]
theorem qhj (s:S39) (t1 t2 r1 r2:List Int) (y:Nat) (h:∀ i:Nat,i<y→rd t1 (i:Int)=rd t2 (i:Int)∧rd r1 (i:Int)=rd r2 (i:Int)) (hy:rd t1 (y:Int)=rd t2 (y:Int)):spwL s t1 r1 y=spwL s t2 r2 y:=by
 unfold spwL
 rw [qhl s t1 t2 r1 r2 y h,hy]
 exact qiQ _ _ _ _ _ _ _ _
theorem qkl (s:S39) (tk rc:List Int):plV s.f0 s.f1 s.f2 s.f4 tk rc=(List.range' 0 tk.length).map (spwL s tk rc):=by
 have:=qmU s tk rc tk.length 0 []
 rw [List.nil_append] at this
 exact this
theorem qiu (s:S39) (tk rc:List Int) (i:Nat) (hi:i<tk.length):rd (plV s.f0 s.f1 s.f2 s.f4 tk rc) (i:Int)=spwL s tk rc i:=by
 rw [qkl,rdI _ i (by simpa using hi)]
 simp
theorem qfA (s:S39) (tk rc:List Int):(plV s.f0 s.f1 s.f2 s.f4 tk rc).length=tk.length:=by rw [qkl];simp
end
section
attribute [local go_sem] Yv Yx YK YL Yn Yo Yw Yy
end
section
theorem qgg (l0 l1 l2:List Int) (a3 a4:Int):∀ k,(∀ n b,Qs.j0 k n b l0 l1 l2 a3 a4=Qo.j0 k n b l0 l1 l2 a3 a4)∧(∀ n b i,Qs.l0 k n b i l0 l1 l2 a3 a4=Qo.l0 k n b i l0 l1 l2 a3 a4)∧(∀ n b i c,Qs.j2 k n b i c l0 l1 l2 a3 a4=Qo.j2 k n b i c l0 l1 l2 a3 a4)
 | 0=>⟨fun _ _=>rfl,fun _ _ _=>rfl,fun _ _ _ _=>rfl⟩
 | k+1=>by
  obtain ⟨h1,h2,h3⟩:=qgg l0 l1 l2 a3 a4 k
  refine ⟨fun n b => ?_,fun n b i => ?_,fun n b i c => ?_⟩
  ·
   simp only [Qs.j0,Qo.j0,h2]
  ·
   simp only [Qs.l0,Qo.l0,h3]
  ·
   simp only [Qs.j2,Qo.j2,h2,qeP,OS]
theorem ql1 {l0 l1 l2:List Int} {a3 a4:Int} (h:isR l0 l1 l2 a3 a4=true):Ev (fun k=>Qs.f k l0 l1 l2 a3 a4) true:=by
 unfold isR at h
 simp only [Bool.and_eq_true,decide_eq_true_eq] at h
 obtain ⟨⟨⟨⟨⟨h1,h2⟩,h3⟩,h4⟩,h5⟩,h6⟩:=h
 have g1:=OA.1 h1
 have hw:wrap64 ((l0.length:Int)-1)=(l0.length:Int)-1:=by unfold wrap64;omega
 have H:=qbV l0 l1 l2 a3 a4 l0.length 0 true (by omega) (fun _=>⟨h2,h3,by omega⟩)
 rw [h6] at H
 refine Ev.congr (fun k => ?_) (Ev.step (g:=fun k=>Qo.j0 k (l0.length:Int) true l0 l1 l2 a3 a4) (fun k=>by simp [Qo.j0]) H)
 simp only [Qs.f,qeP,Option.bind_some,h1,h2,h3,hw,h5,(qgg l0 l1 l2 a3 a4 k).1,if_true]
end
section
attribute [local go_sem] Yv Yx YK YL Yn Yo Yw Yy
end
section
theorem modP (a b:Int) (hb:0<b) (hb2:b≤4611686018427387904):Ym.f a b=some (a % b):=by
 unfold Ym.f
 rw [if_neg (by omega)]
 have h1:=Int.tmod_lt_of_pos a hb
 have h2:Int.tmod a b=a % b∨Int.tmod a b=a % b-b:=by
  rw [Int.tmod_eq_emod]
  split
  ·
   left;simp
  ·
   right
   have:(b.natAbs:Int)=b:=by omega
   rw [this]
 have h3:=Int.emod_nonneg a (by omega:b≠0)
 have h4:=Int.emod_lt_of_pos a hb
 rcases h2 with h2|h2
 ·
  rw [if_neg (by omega),h2]
 ·
  rw [if_pos (by omega),h2]
  congr 1
  unfold wrap64
  omega
theorem modB (a b:Int) (hb:0<b) (hb2:b≤4611686018427387904):∃ m,Ym.f a b=some m∧0≤m∧m<b :=
 ⟨a % b,modP a b hb hb2,Int.emod_nonneg a (by omega),Int.emod_lt_of_pos a hb⟩
end
section
theorem qeQ {l:List Int} {c:Int} (h:l.all (fun x=>wi x 0 c)=true) (i:Nat) (hi:i<l.length):0≤rd l (i:Int)∧rd l (i:Int)≤c:=by
 rw [rdI l i hi]
 exact OA.1 (List.all_eq_true.1 h _ (List.getElem_mem hi))
theorem qjq {l:List Int} {c x:Int} (h:l.all (fun x=>wi x 0 c)=true) (i:Nat) (hx:0≤x∧x≤c):(l.set i x).all (fun x=>wi x 0 c)=true:=by
 rw [List.all_eq_true]
 intro y hy
 rcases List.mem_or_eq_of_mem_set hy with hy|rfl
 ·
  exact List.all_eq_true.1 h y hy
 ·
  exact OA.2 hx
theorem qoP {x p:Int} (h0:0≤x) (h1:x≤100000000) (p0:0≤p) (p1:p<50):x≤mn 100000000 (wrap64 (x+p))∧mn 100000000 (wrap64 (x+p))≤100000000:=by
 have e:wrap64 (x+p)=x+p:=by unfold wrap64;omega
 rw [e]
 unfold mn
 split<;>omega
theorem qmm {x p:Int} (h0:0≤x) (h1:x≤100000) (p0:0≤p) (p1:p<50):0≤mx 0 (wrap64 (x-p))∧mx 0 (wrap64 (x-p))≤x:=by
 have e:wrap64 (x-p)=x-p:=by unfold wrap64;omega
 rw [e]
 unfold mx
 split<;>omega
theorem qh0 (L M K:List Int) (y n:Nat) (hn:n≤10) (hL:L.length=n) (hM:M.length=n) (hK:K.length=n) (h0:∀ i:Nat,i<n→0≤rd L (i:Int)) (h1:∀ i:Nat,i<n→rd M (i:Int)≤rd L (i:Int)) (h2:∀ i:Nat,i<n→rd K (i:Int)≤rd L (i:Int))
  (h3:∀ i:Nat,i<n→i<y→rd M (i:Int)=rd L (i:Int)) (h4:∀ i:Nat,i<n→i≤y→rd K (i:Int)=rd L (i:Int)):∀ (d i:Nat),i+d=n→Ev (fun k=>Qf.l0 k L (y:Int) M K (i:Int)) true:=by
 intro d
 induction d with
 | zero =>
  intro i hi
  refine Ev.step (f:=fun _=>some true) (fun k => ?_) (Ev.now _)
  simp only [Qf.l0,ZD.f,Option.bind_some]
  rw [if_neg (by omega)]
 | succ d ih =>
  intro i hi
  have hlt:i<n:=by omega
  have hi1:i+1+d=n:=by omega
  have f1:(i:Int)<(L.length:Int):=by omega
  have f2:(i:Int)<(M.length:Int):=by omega
  have f3:(i:Int)<(K.length:Int):=by omega
  have f0:(0:Int)≤(i:Int):=Int.natCast_nonneg i
  have g0:=Int.not_lt.2 (h0 i hlt)
  have g1:=Int.not_lt.2 (h1 i hlt)
  have g2:=Int.not_lt.2 (h2 i hlt)
  have c1:(i:Int)<(y:Int)→rd M (i:Int)=rd L (i:Int):=fun h=>h3 i hlt (by omega)
  have c2:(i:Int)≤(y:Int)→rd K (i:Int)=rd L (i:Int):=fun h=>h4 i hlt (by omega)
  have hw:=wr1 i n hlt (by omega)
  refine Ev.step (fun k => ?_) (ih (i+1) hi1)
  simp only [Qf.l0,hw]
  rw [if_pos f1,if_pos f0,if_neg g0,if_pos f2,if_neg g1,if_pos f3,if_neg g2]
  by_cases e1:(i:Int)<(y:Int)
  ·
   have e2:(i:Int)≤(y:Int):=Int.le_of_lt e1
   rw [if_pos e1,if_pos (c1 e1),if_pos e2,if_pos (c2 e2)]
  ·
   rw [if_neg e1]
   by_cases e2:(i:Int)≤(y:Int)
   ·
    rw [if_pos e2,if_pos (c2 e2)]
   ·
    rw [if_neg e2]
theorem StockFalls (s:S39) (tk rc:List Int) (a0 a1 a2:Int) (hs:W39 s) (y1:tk.length*8≤140737488351232) (hp1:∀ x∈tk,Wf x) (y2:rc.length*8≤140737488351232) (hp2:∀ x∈rc,Wf x) (w0:Wf a0) (w1:Wf a1) (w2:Wf a2):∃ k,Qf.f k s.f0 s.f1 s.f2 s.f3 s.f4 tk rc a0 a1 a2=some true:=by
 refine Ev.rounds (Ev.bind (Wn s tk rc) ?_)
 cases hok:plOk s tk rc with
 | false =>
  refine Ev.step (f:=fun _=>some true) (fun k => ?_) (Ev.now _)
  simp [qbP,Qf.j0,ZD.f]
 | true =>
  have hok':=hok
  unfold plOk at hok'
  simp only [Bool.and_eq_true,beq_iff_eq] at hok'
  obtain ⟨⟨⟨ho,hw1⟩,hln⟩,ht,hr⟩:=hok'
  obtain ⟨n1,n10⟩:=OA.1 hw1
  have qGc:rc.length=tk.length:=by omega
  obtain ⟨y,ey,y0,y1'⟩:=modB a0 (tk.length:Int) (by omega) (by omega)
  obtain ⟨y,rfl⟩:∃ q:Nat,y=(q:Int):=⟨y.toNat,by omega⟩
  have hy:y<tk.length:=by omega
  obtain ⟨p,ep,p0,p1⟩:=modB a1 50 (by decide) (by decide)
  obtain ⟨q,eq,q0,q1⟩:=modB a2 50 (by decide) (by decide)
  have bt:=qeQ ht y hy
  have br:=qeQ hr y (by omega)
  have hmo:=qoP bt.1 bt.2 p0 p1
  have hfe:=qmm br.1 br.2 q0 q1
  obtain ⟨mo,qus⟩:∃ z,mn 100000000 (wrap64 (rd tk (y:Int)+p))=z:=⟨_,rfl⟩
  obtain ⟨fe,qtX⟩:∃ z,mx 0 (wrap64 (rd rc (y:Int)-q))=z:=⟨_,rfl⟩
  rw [qus] at hmo
  rw [qtX] at hfe
  have okM:plOk s (tk.set y mo) rc=true:=by
   unfold plOk
   rw [List.length_set,ho,hw1,qjq ht y ⟨by omega,hmo.2⟩,hr,hln]
   simp
  have okK:plOk s tk (rc.set y fe)=true:=by
   unfold plOk
   rw [List.length_set,ho,hw1,qjq hr y ⟨hfe.1,by omega⟩,ht,hln]
   simp
  have hPM:=Wn s (tk.set y mo) rc
  rw [okM] at hPM
  have hPK:=Wn s tk (rc.set y fe)
  rw [okK] at hPK
  have eM:∀ i:Nat,i<tk.length→rd (tk.set y mo) (i:Int)=if i=y then mo else rd tk (i:Int):=fun i hi=>Xv tk y i mo hy
  have eK:∀ i:Nat,i<tk.length→rd (rc.set y fe) (i:Int)=if i=y then fe else rd rc (i:Int):=fun i hi=>Xv rc y i fe (by omega)
  have h10:tk.length≤10:=by omega
  have TT:∀ i:Nat,i<tk.length→0≤rd tk (i:Int)∧rd tk (i:Int)≤100000000:=fun i hi=>qeQ ht i hi
  have RR':∀ i:Nat,i<tk.length→0≤rd rc (i:Int)∧rd rc (i:Int)≤100000:=fun i hi=>qeQ hr i (by omega)
  have LL:=qfA s tk rc
  have LM:=qfA s (tk.set y mo) rc
  have LK:=qfA s tk (rc.set y fe)
  rw [List.length_set] at LM
  have rM:∀ i:Nat,i<tk.length→rd (plV s.f0 s.f1 s.f2 s.f4 (tk.set y mo) rc) (i:Int)=spwL s (tk.set y mo) rc i:=fun i hi=>qiu s (tk.set y mo) rc i (by rw [List.length_set];exact hi)
  have rK:∀ i:Nat,i<tk.length→rd (plV s.f0 s.f1 s.f2 s.f4 tk (rc.set y fe)) (i:Int)=spwL s tk (rc.set y fe) i:=fun i hi=>qiu s tk (rc.set y fe) i hi
  have rL:∀ i:Nat,i<tk.length→rd (plV s.f0 s.f1 s.f2 s.f4 tk rc) (i:Int)=spwL s tk rc i:=fun i hi=>qiu s tk rc i hi
  have last:=qh0 (plV s.f0 s.f1 s.f2 s.f4 tk rc) (plV s.f0 s.f1 s.f2 s.f4 (tk.set y mo) rc) (plV s.f0 s.f1 s.f2 s.f4 tk (rc.set y fe)) y tk.length h10 LL LM LK
   (fun i hi=>by rw [rL i hi];exact qiP ho tk.length h10 (fun j hj=>⟨(TT j hj).1,Int.le_trans (TT j hj).2 (by decide)⟩) RR' i hi)
   (fun i hi=>by
    rw [rL i hi,rM i hi];refine qhi ho tk.length h10 (fun j hj => ?_) (fun j hj=>⟨(RR' j hj).1,Int.le_refl _,(RR' j hj).2⟩) i hi;obtain ⟨x0,x1⟩:=TT j hj;rw [eM j hj]
    by_cases c:j=y
    ·
     subst c;rw [if_pos rfl];exact ⟨x0,hmo.1,Int.le_trans hmo.2 (by decide)⟩
    ·
     rw [if_neg c];exact ⟨x0,Int.le_refl _,Int.le_trans x1 (by decide)⟩)
   (fun i hi=>by
    rw [rL i hi,rK i hi];refine qhi ho tk.length h10 (fun j hj=>⟨(TT j hj).1,Int.le_refl _,Int.le_trans (TT j hj).2 (by decide)⟩) (fun j hj => ?_) i hi;obtain ⟨x0,x1⟩:=RR' j hj;rw [eK j hj]
    by_cases c:j=y
    ·
     subst c;rw [if_pos rfl];exact ⟨hfe.1,hfe.2,x1⟩
    ·
     rw [if_neg c];exact ⟨x0,Int.le_refl _,x1⟩)
   (fun i hi hiy=>by
    rw [rL i hi,rM i hi]
    exact qhj s _ _ _ _ i (fun j hj=>⟨by rw [eM j (by omega),if_neg (by omega)],rfl⟩) (by rw [eM i hi,if_neg (by omega)]))
   (fun i hi hiy=>by
    rw [rL i hi,rK i hi]
    exact qhj s _ _ _ _ i (fun j hj=>⟨rfl,by rw [eK j (by omega),if_neg (by omega)]⟩) rfl)
   tk.length 0 (by omega)
  have hAl:=ql1 ho
  have d1:(((plV s.f0 s.f1 s.f2 s.f4 tk rc).length:Int) != (tk.length:Int))=false:=by rw [LL];simp
  have hE:Ev (fun k=>Qf.j0 k tk rc (plV s.f0 s.f1 s.f2 s.f4 tk rc) 0 false s.f0 s.f1 s.f2 s.f3 s.f4 a0 a1 a2) true:=by
   refine Ev.step (f:=fun k=>(Qy.f k s.f0 s.f1 s.f2 s.f3 s.f4 (tk.set y mo) rc).bind fun YG=>((Qy.f k s.f0 s.f1 s.f2 s.f3 s.f4 tk (rc.set y fe)).bind fun YC=>(if YG.2=0 then (if YC.2=0 then (if (YG.1.length:Int)=((plV s.f0 s.f1 s.f2 s.f4 tk rc).length:Int) then (Qf.j1 k (plV s.f0 s.f1 s.f2 s.f4 tk rc) (y:Int) YG.1 YC.1 ((YC.1.length:Int) != ((plV s.f0 s.f1 s.f2 s.f4 tk rc).length:Int))) else (Qf.j1 k (plV s.f0 s.f1 s.f2 s.f4 tk rc) (y:Int) YG.1 YC.1 true)) else (Qf.j1 k (plV s.f0 s.f1 s.f2 s.f4 tk rc) (y:Int) YG.1 YC.1 true)) else (Qf.j1 k (plV s.f0 s.f1 s.f2 s.f4 tk rc) (y:Int) YG.1 YC.1 true)))) (fun k => ?_) (Ev.bind hPM (Ev.bind hPK ?_))
   ·
    have z1:tk.length<17592186044416:=by omega
    have z2:rc.length<17592186044416:=by omega
    have z3:(y:Int)<(rc.length:Int):=by omega
    simp only [Qf.j0,Option.bind_some,List.nil_append,List.length_nil,Nat.zero_add];rw [if_neg (by decide),ey,Option.bind_some,if_pos z1,if_pos z2,if_pos y0,if_pos y1',ep,Option.bind_some,if_pos z3,eq,Option.bind_some,qus,qtX,Int.toNat_natCast]
   ·
    refine Ev.congr (f:=fun k=>Qf.j1 k (plV s.f0 s.f1 s.f2 s.f4 tk rc) (y:Int) (plV s.f0 s.f1 s.f2 s.f4 (tk.set y mo) rc) (plV s.f0 s.f1 s.f2 s.f4 tk (rc.set y fe)) false) (fun k => ?_) (Ev.step (fun k => ?_) last)
    ·
     simp [qbP,LL,LM,LK]
    ·
     simp [Qf.j1]
  refine Ev.congr (f:=fun k=>(Qs.f k s.f0 s.f1 s.f2 s.f3 s.f4).bind fun qep=>(if qep=true then (Qf.j0 k tk rc (plV s.f0 s.f1 s.f2 s.f4 tk rc) 0 false s.f0 s.f1 s.f2 s.f3 s.f4 a0 a1 a2) else (Qf.j0 k tk rc (plV s.f0 s.f1 s.f2 s.f4 tk rc) 0 true s.f0 s.f1 s.f2 s.f3 s.f4 a0 a1 a2))) (fun k => ?_) (Ev.bind hAl (Ev.congr (fun k=>by rw [if_pos rfl]) hE))
  simp [qbP,qeP,hw1,hln,d1]
end
end Go.Proofs.Ytmhomdohhihlcaa.P
