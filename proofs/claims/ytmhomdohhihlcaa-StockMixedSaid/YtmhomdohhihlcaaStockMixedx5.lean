/- What the statement StockMixed leans on, part 6 of 6: contracts of the program's functions; conditions: none. -/
import Derived.SizedLaws
import Derived.Test.YtmhomdohhihlcaaStockMixedx0
import Derived.Test.YtmhomdohhihlcaaStockMixedx1
import Derived.Test.YtmhomdohhihlcaaStockMixedx2
import Derived.Test.YtmhomdohhihlcaaStockMixedx3
import Derived.Test.YtmhomdohhihlcaaStockMixedx4
set_option linter.unusedVariables false
set_option linter.unusedSimpArgs false
set_option linter.constructorNameAsVariable false
set_option linter.unusedSectionVars false
namespace Go.Proofs.Ytmhomdohhihlcaa.P
open Go.RowKit Go.Proofs.YtmhomdohhihlcaaW.PrintWords Go.Proofs.YtmhomdohhihlcaaW.PrintLast Go.Proofs.YtmhomdohhihlcaaW.PrintMore
section
theorem qbp (l:List S25) (i:Nat) (h:i<l.length):Qs l (i:Int)=l[i]:=by simp [Qs,List.getD_eq_getElem?_getD,List.getElem?_eq_getElem h]
theorem qqn (l:List (List S25)) (i:Nat) (h:i<l.length):Yh l (i:Int)=l[i]:=by simp [Yh,List.getD_eq_getElem?_getD,List.getElem?_eq_getElem h]
theorem rdN (l:List Int) (i:Nat) (h:i<l.length):rd l (i:Int)=l[i]:=by simp [rd,List.getD_eq_getElem?_getD,List.getElem?_eq_getElem h]
def spS (s:S25):Bool:=sp s.f0 s.f1 100
theorem qb8 {s:S25}:spS s=true↔0≤s.f0∧s.f0≤s.f1∧s.f1≤100:=by unfold spS sp;rw [decide_eq_true_eq]
def areS (n:Int) (x:List S25):Bool:=wi n 1 6&&((x.length:Int)==n)&&x.all spS
theorem qa7 (x:List S25) (n:Int) (hn:x.length≤9223372036854775807):Ev (fun k=>Qy.f k x n) (areS n x):=by
 have loop:∀ (d i:Nat) (b:Bool),i+d=x.length→Ev (fun k=>Qy.l0 k b x (x.length:Int) (i:Int)) (b&&(x.drop i).all spS):=by
  intro d
  induction d with
  | zero =>
   intro i b hi
   rw [List.drop_eq_nil_of_le (by omega),List.all_nil,Bool.and_true]
   refine Ev.step (f:=fun _=>some b) (fun k => ?_) (Ev.now _)
   simp only [Qy.l0]
   rw [if_neg (by omega)]
  | succ d ih =>
   intro i b hi
   have hlt:i<x.length:=by omega
   have hw:=wr1 i x.length hlt (by omega)
   rw [List.drop_eq_getElem_cons hlt,List.all_cons,← Bool.and_assoc]
   refine Ev.step (f:=fun k=>Qy.l0 k (b&&spS x[i]) x (x.length:Int) ((i+1:Nat):Int)) (fun k => ?_) (ih (i+1) _ (by omega))
   simp only [Qy.l0,qei,Option.bind_some,qbp x i hlt,hw]
   rw [if_pos (by omega),if_pos (by omega),if_pos (by omega)]
   cases b with
   | false=>simp
   | true=>simp [spS]
 have h2:Ev (fun k=>Qy.j0 k x (wi n 1 6&&((x.length:Int)==n))) (areS n x):=by
  refine Ev.step (f:=fun k=>Qy.l0 k (wi n 1 6&&((x.length:Int)==n)) x (x.length:Int) ((0:Nat):Int)) (fun k => ?_) (loop x.length 0 _ (by omega))
  simp [Qy.j0]
 refine Ev.congr (fun k => ?_) h2
 simp only [Qy.f,qbi,Option.bind_some]
 cases wi n 1 6<;>simp
theorem qlG (n:Int):∀ (L:List (List S25)) (ok:Bool),(∀ x∈L,x.length≤9223372036854775807)→Ev (fun k=>Qo.sg k n L ok) (ok&&L.all (areS n))
 | [],ok,_=>by
  rw [List.all_nil,Bool.and_true]
  exact Ev.congr (fun k=>rfl) (Ev.now _)
 | x::xs,ok,h=>by
  rw [List.all_cons,← Bool.and_assoc]
  cases ok with
  | false=>exact Ev.congr (fun k=>by simp [Qo.sg]) (qlG n xs false (fun y hy=>h y (by simp [hy])))
  | true =>
   refine Ev.congr (f:=fun k=>(Qy.f k x n).bind fun b=>Qo.sg k n xs b) (fun k=>by simp [Qo.sg]) ?_
   exact Ev.bind (qa7 x n (h x (by simp))) (qlG n xs _ (fun y hy=>h y (by simp [hy])))
def dl (g:S25→Int) (mix:List Int) (l0:List (List S25)) (k:Int):Nat→Int
 | 0=>0
 | j+1=>dl g mix l0 k j+rd mix (j:Int)*g (Qs (Yh l0 (j:Int)) k)
structure Sg (l0:List (List S25)) (n:Nat):Prop where
 n1:1≤n
 n6:n≤6
 r1:1≤l0.length
 r3:l0.length≤3
 ln:∀ r:Nat,r<l0.length→(Yh l0 (r:Int)).length=n
 sp:∀ r k:Nat,r<l0.length→k<n→0≤(Qs (Yh l0 (r:Int)) (k:Int)).f0∧(Qs (Yh l0 (r:Int)) (k:Int)).f0≤(Qs (Yh l0 (r:Int)) (k:Int)).f1∧(Qs (Yh l0 (r:Int)) (k:Int)).f1≤100
theorem Sg.of {l0:List (List S25)} {n:Nat} (h0:wi (l0.length:Int) 1 3=true) (hn:wi (n:Int) 1 6=true) (h1:l0.all (areS (n:Int))=true):Sg l0 n:=by
 obtain ⟨a0,a1⟩:=OI.1 h0
 obtain ⟨b0,b1⟩:=OI.1 hn
 have hr:∀ r:Nat,r<l0.length→(Yh l0 (r:Int)).length=n∧(Yh l0 (r:Int)).all spS=true:=fun r hr=>by
  have:=List.all_eq_true.1 h1 l0[r] (List.getElem_mem hr)
  unfold areS at this
  rw [Bool.and_eq_true,Bool.and_eq_true,beq_iff_eq] at this
  rw [qqn l0 r hr]
  exact ⟨by omega,this.2⟩
 refine ⟨by omega,by omega,by omega,by omega,fun r h=>(hr r h).1,fun r k h hk => ?_⟩
 obtain ⟨e1,e2⟩:=hr r h
 have hk':k<(Yh l0 (r:Int)).length:=by omega
 rw [qbp _ k hk']
 exact qb8.1 (List.all_eq_true.1 e2 _ (List.getElem_mem hk'))
structure Mx (mix:List Int) (n:Nat):Prop where
 ln:mix.length=n
 lo:∀ r:Nat,r<n→0≤rd mix (r:Int)
 hi:∀ r:Nat,r<n→rd mix (r:Int)≤100
theorem qls {a b:Int} (a0:0≤a) (a1:a≤100) (b0:0≤b) (b1:b≤100):0≤a*b∧a*b≤10000 :=
 ⟨Int.mul_nonneg a0 b0,Int.le_trans (Int.mul_le_mul a1 b1 b0 (by decide)) (by decide)⟩
section
variable {l0:List (List S25)} {n:Nat} (hs:Sg l0 n)
include hs
theorem dl_b {mix:List Int} (hm:Mx mix l0.length) (g:S25→Int) (hg:∀ r k:Nat,r<l0.length→k<n→0≤g (Qs (Yh l0 (r:Int)) (k:Int))∧g (Qs (Yh l0 (r:Int)) (k:Int))≤100) (k:Nat) (hk:k<n):∀ j:Nat,j≤l0.length→0≤dl g mix l0 k j∧dl g mix l0 k j≤10000*(j:Int)
 | 0,_=>by simp [dl]
 | j+1,hj=>by
  have ih:=dl_b hm g hg k hk j (by omega)
  have hb:=qls (hm.lo j (by omega)) (hm.hi j (by omega)) (hg j k (by omega) hk).1 (hg j k (by omega) hk).2
  rw [dl]
  push_cast
  omega
theorem qdy {mix:List Int} (hm:Mx mix l0.length) (g:S25→Int) (hg:∀ r k:Nat,r<l0.length→k<n→0≤g (Qs (Yh l0 (r:Int)) (k:Int))∧g (Qs (Yh l0 (r:Int)) (k:Int))≤100) (k:Nat) (hk:k<n):∀ j:Nat,j≤l0.length →
  ((List.range j).map fun r:Nat=>wrap64 (rd mix (r:Int)*g (Qs (Yh l0 (r:Int)) (k:Int)))).foldl (fun s x=>wrap64 (s+x)) 0=dl g mix l0 k j
 | 0,_=>rfl
 | j+1,hj=>by
  rw [List.range_succ,List.map_append,List.foldl_append,qdy hm g hg k hk j (by omega),List.map_cons,List.map_nil,List.foldl_cons,List.foldl_nil,dl]
  have b1:=dl_b hs hm g hg k hk j (by omega)
  have hb:=qls (hm.lo j (by omega)) (hm.hi j (by omega)) (hg j k (by omega) hk).1 (hg j k (by omega) hk).2
  have h3:=hs.r3
  obtain ⟨X,hX⟩:∃ X,rd mix (j:Int)*g (Qs (Yh l0 (j:Int)) (k:Int))=X:=⟨_,rfl⟩
  obtain ⟨Y,hY⟩:∃ Y,dl g mix l0 k j=Y:=⟨_,rfl⟩
  rw [hX] at hb ⊢
  rw [hY] at b1 ⊢
  have e1:wrap64 X=X:=by unfold wrap64;omega
  rw [e1]
  unfold wrap64
  omega
theorem qp6 {mix:List Int} (hm:Mx mix l0.length) (k:Nat) (hk:k<n):Ev (fun q=>QG.f q 0 mix l0 (k:Int)) (dl S25.f0 mix l0 k l0.length):=by
 have h3:=hs.r3
 have hml:=hm.ln
 have loop:∀ (d i:Nat),i+d=l0.length→Ev (fun q=>QG.l0 q l0 (k:Int) ((List.range i).map fun r:Nat=>wrap64 (rd mix (r:Int)*(Qs (Yh l0 (r:Int)) (k:Int)).f0)) mix (mix.length:Int) (i:Int)) (dl S25.f0 mix l0 k l0.length):=by
  intro d
  induction d with
  | zero =>
   intro i hi
   have hi':i=l0.length:=by omega
   subst hi'
   have hsum:=qek ((List.range l0.length).map fun r:Nat=>wrap64 (rd mix (r:Int)*(Qs (Yh l0 (r:Int)) (k:Int)).f0)) (by simp;omega)
   have hE:=Ev.of (fun q=>QS.mono _ q) hsum
   refine Ev.step (f:=fun q=>(QS.f q ((List.range l0.length).map fun r:Nat=>wrap64 (rd mix (r:Int)*(Qs (Yh l0 (r:Int)) (k:Int)).f0))).bind fun t141=>(some t141)) (fun q => ?_) (Ev.bind hE ?_)
   ·
    simp only [QG.l0];rw [if_neg (by omega)]
   ·
    rw [sumW,qdy hs hm S25.f0 (fun r k hr hk=>⟨(hs.sp r k hr hk).1,Int.le_trans (hs.sp r k hr hk).2.1 (hs.sp r k hr hk).2.2⟩) k hk l0.length (Nat.le_refl _)]
    exact Ev.now _
  | succ d ih =>
   intro i hi
   have hlt:i<l0.length:=by omega
   have hw:=wr1 i l0.length hlt (by omega)
   have hln:=hs.ln i hlt
   refine Ev.step (f:=fun q=>QG.l0 q l0 (k:Int) ((List.range (i+1)).map fun r:Nat=>wrap64 (rd mix (r:Int)*(Qs (Yh l0 (r:Int)) (k:Int)).f0)) mix (mix.length:Int) ((i+1:Nat):Int)) (fun q => ?_) (ih (i+1) (by omega))
   simp only [QG.l0,JL.f,Option.bind_some,hw]
   rw [if_pos (by omega),if_pos (by omega),if_pos (by omega),if_pos (by omega),if_pos (by omega),if_pos (by omega),if_pos (by simp;omega),List.range_succ,List.map_append,List.map_cons,List.map_nil]
 exact loop l0.length 0 (by omega)
theorem qny {mix:List Int} (hm:Mx mix l0.length) (k:Nat) (hk:k<n):Ev (fun q=>QB.f q 0 mix l0 (k:Int)) (dl S25.f1 mix l0 k l0.length):=by
 have h3:=hs.r3
 have hml:=hm.ln
 have loop:∀ (d i:Nat),i+d=l0.length→Ev (fun q=>QB.l0 q l0 (k:Int) ((List.range i).map fun r:Nat=>wrap64 (rd mix (r:Int)*(Qs (Yh l0 (r:Int)) (k:Int)).f1)) mix (mix.length:Int) (i:Int)) (dl S25.f1 mix l0 k l0.length):=by
  intro d
  induction d with
  | zero =>
   intro i hi
   have hi':i=l0.length:=by omega
   subst hi'
   have hsum:=qek ((List.range l0.length).map fun r:Nat=>wrap64 (rd mix (r:Int)*(Qs (Yh l0 (r:Int)) (k:Int)).f1)) (by simp;omega)
   have hE:=Ev.of (fun q=>QS.mono _ q) hsum
   refine Ev.step (f:=fun q=>(QS.f q ((List.range l0.length).map fun r:Nat=>wrap64 (rd mix (r:Int)*(Qs (Yh l0 (r:Int)) (k:Int)).f1))).bind fun t141=>(some t141)) (fun q => ?_) (Ev.bind hE ?_)
   ·
    simp only [QB.l0];rw [if_neg (by omega)]
   ·
    rw [sumW,qdy hs hm S25.f1 (fun r k hr hk=>⟨Int.le_trans (hs.sp r k hr hk).1 (hs.sp r k hr hk).2.1,(hs.sp r k hr hk).2.2⟩) k hk l0.length (Nat.le_refl _)]
    exact Ev.now _
  | succ d ih =>
   intro i hi
   have hlt:i<l0.length:=by omega
   have hw:=wr1 i l0.length hlt (by omega)
   have hln:=hs.ln i hlt
   refine Ev.step (f:=fun q=>QB.l0 q l0 (k:Int) ((List.range (i+1)).map fun r:Nat=>wrap64 (rd mix (r:Int)*(Qs (Yh l0 (r:Int)) (k:Int)).f1)) mix (mix.length:Int) ((i+1:Nat):Int)) (fun q => ?_) (ih (i+1) (by omega))
   simp only [QB.l0,JA.f,Option.bind_some,hw]
   rw [if_pos (by omega),if_pos (by omega),if_pos (by omega),if_pos (by omega),if_pos (by omega),if_pos (by omega),if_pos (by simp;omega),List.range_succ,List.map_append,List.map_cons,List.map_nil]
 exact loop l0.length 0 (by omega)
end
def agB (l0:List (List S25)) (l1:List S25) (mix:List Int):Bool:=(List.range l1.length).all fun k:Nat=>decide (dl S25.f0 mix l0 (k:Int) l0.length≤100*(Qs l1 (k:Int)).f1)&&decide (100*(Qs l1 (k:Int)).f0≤dl S25.f1 mix l0 (k:Int) l0.length)
theorem qh3 {l0:List (List S25)} {l1:List S25} {mix:List Int}:agB l0 l1 mix=true ↔ ∀ k:Nat,k<l1.length→dl S25.f0 mix l0 (k:Int) l0.length≤100*(Qs l1 (k:Int)).f1∧100*(Qs l1 (k:Int)).f0≤dl S25.f1 mix l0 (k:Int) l0.length:=by
 unfold agB
 simp only [List.all_eq_true,List.mem_range,Bool.and_eq_true,decide_eq_true_eq]
theorem qrF {l0:List (List S25)} {l1:List S25} (hs:Sg l0 l1.length) (hv:l1.all spS=true) {mix:List Int} (hm:Mx mix l0.length):Ev (fun q=>Qo.ag q l0 l1 mix l1.length 0) (agB l0 l1 mix):=by
 have h6:=hs.n6
 have loop:∀ (d i:Nat),i+d=l1.length→Ev (fun q=>Qo.ag q l0 l1 mix d (i:Int)) ((List.range' i d).all fun k:Nat=>decide (dl S25.f0 mix l0 (k:Int) l0.length≤100*(Qs l1 (k:Int)).f1)&&decide (100*(Qs l1 (k:Int)).f0≤dl S25.f1 mix l0 (k:Int) l0.length)):=by
  intro d
  induction d with
  | zero=>intro i hi;exact Ev.congr (fun q=>rfl) (Ev.now _)
  | succ d ih =>
   intro i hi
   have hlt:i<l1.length:=by omega
   rw [List.range'_succ,List.all_cons]
   have hx:=qb8.1 (List.all_eq_true.1 hv l1[i] (List.getElem_mem hlt))
   have hr:=qbp l1 i hlt
   rw [hr]
   obtain ⟨x,hxe⟩:∃ x,l1[i]=x:=⟨_,rfl⟩
   rw [hxe] at hx hr ⊢
   have w0:wrap64 (100*x.f0)=100*x.f0:=by unfold wrap64;omega
   have w1:wrap64 (100*x.f1)=100*x.f1:=by unfold wrap64;omega
   refine Ev.congr (f:=fun q=>(QG.f q 0 mix l0 (i:Int)).bind fun lo=>if 100*x.f1<lo then some false else (QB.f q 0 mix l0 (i:Int)).bind fun hi=>if hi<100*x.f0 then some false else Qo.ag q l0 l1 mix d ((i+1:Nat):Int)) (fun q=>by rw [Qo.ag,hr,w0,w1];push_cast;rfl) ?_
   refine Ev.bind (qp6 hs hm i hlt) ?_
   by_cases c0:100*x.f1<dl S25.f0 mix l0 (i:Int) l0.length
   ·
    refine Ev.congr (f:=fun _=>some false) (fun q=>by rw [if_pos c0]) ?_;rw [decide_eq_false (by omega),Bool.false_and,Bool.false_and]
    exact Ev.now _
   ·
    refine Ev.congr (f:=fun q=>(QB.f q 0 mix l0 (i:Int)).bind fun hi=>if hi<100*x.f0 then some false else Qo.ag q l0 l1 mix d ((i+1:Nat):Int)) (fun q=>by rw [if_neg c0]) ?_;rw [decide_eq_true (by omega:dl S25.f0 mix l0 (i:Int) l0.length≤100*x.f1),Bool.true_and];refine Ev.bind (qny hs hm i hlt) ?_
    by_cases c1:dl S25.f1 mix l0 (i:Int) l0.length<100*x.f0
    ·
     refine Ev.congr (f:=fun _=>some false) (fun q=>by rw [if_pos c1]) ?_;rw [decide_eq_false (by omega),Bool.false_and]
     exact Ev.now _
    ·
     refine Ev.congr (f:=fun q=>Qo.ag q l0 l1 mix d ((i+1:Nat):Int)) (fun q=>by rw [if_neg c1]) ?_;rw [decide_eq_true (by omega:100*x.f0≤dl S25.f1 mix l0 (i:Int) l0.length),Bool.true_and]
     exact ih (i+1) (by omega)
 have:=loop l1.length 0 (by omega)
 rw [agB,List.range_eq_range']
 exact this
def stP (l0:List (List S25)) (l1:List S25) (out:List S25) (mix:List Int):List S25 :=
 if agB l0 l1 mix then Qo.wide (if out=[] then mix.map (fun n=>⟨n,n⟩) else out) mix else out
theorem qkK {l0:List (List S25)} {l1:List S25} (hs:Sg l0 l1.length) (hv:l1.all spS=true):∀ (L:List (List Int)) (out:List S25),(∀ m∈L,Mx m l0.length)→Ev (fun q=>Qo.all q l0 l1 L out) (L.foldl (stP l0 l1) out)
 | [],out,_=>Ev.congr (fun q=>rfl) (Ev.now _)
 | m::L,out,h=>by
  rw [List.foldl_cons]
  refine Ev.congr (f:=fun q=>(Qo.st q l0 l1 out m).bind fun o=>Qo.all q l0 l1 L o) (fun q=>rfl) ?_
  refine Ev.bind ?_ (qkK hs hv L _ (fun m hm=>h m (by simp [hm])))
  refine Ev.congr (f:=fun q=>(Qo.ag q l0 l1 m l1.length 0).bind fun b=>some (if b then Qo.wide (if out=[] then m.map (fun n=>⟨n,n⟩) else out) m else out)) (fun q=>by rw [Qo.st,Option.map_eq_bind];rfl) ?_
  exact Ev.bind (qrF hs hv (h m (by simp))) (Ev.now _)
theorem qaU:∀ (j:Nat) (left:Int) (b m:List Int),0≤left→(m∈Jz j left b ↔ ∃ t:List Int,m=b++t∧t.length=j+1∧(∀ x∈t,0≤x)∧t.sum=left)
 | 0,left,b,m,h=>by
  rw [Jz,List.mem_singleton]
  constructor
  ·
   rintro rfl
   exact ⟨[left],rfl,rfl,by simpa using h,by simp⟩
  ·
   rintro ⟨t,rfl,hl,h0,hsum⟩
   match t,hl with
   | [x],_=>simp at hsum;rw [hsum]
 | j+1,left,b,m,h=>by
  rw [Jz,List.mem_flatMap]
  constructor
  ·
   rintro ⟨x,hx,hm⟩
   rw [List.mem_range] at hx
   obtain ⟨t,rfl,hl,h0,hsum⟩:=(qaU j (left-(x:Int)) (b++[(x:Int)]) m (by omega)).1 hm
   refine ⟨(x:Int)::t,by simp,by simp [hl],?_,by simp [hsum];omega⟩
   intro y hy
   rcases List.mem_cons.1 hy with rfl|hy
   ·
    omega
   ·
    exact h0 y hy
  ·
   rintro ⟨t,rfl,hl,h0,hsum⟩
   match t,hl with
   | x::t,hl =>
    have hx0:0≤x:=h0 x (by simp)
    have ht0:0≤t.sum:=by
     have:∀ t:List Int,(∀ x∈t,0≤x)→0≤t.sum:=by
      intro t
      induction t with
      | nil=>intro _;simp
      | cons y t ih =>
       intro h;have:=ih (fun z hz=>h z (by simp [hz]));have:=h y (by simp)
       simp
       omega
     exact this t (fun y hy=>h0 y (by simp [hy]))
    rw [List.sum_cons] at hsum;refine ⟨x.toNat,by rw [List.mem_range];omega,?_⟩;rw [qaU j _ _ _ (by omega)];refine ⟨t,?_,by simpa using hl,fun y hy=>h0 y (by simp [hy]),by omega⟩;rw [Int.toNat_of_nonneg hx0]
    simp
theorem qhr:∀ (t:List Int),(∀ x∈t,0≤x) → ∀ x∈t,x≤t.sum
 | [],_,x,hx=>by simp at hx
 | y::t,h,x,hx=>by
  have h1:0≤t.sum:=by
   match t with
   | []=>simp
   | z::t=>exact Int.le_trans (h z (by simp)) (qhr (z::t) (fun w hw=>h w (by simp [hw])) z (by simp))
  rw [List.sum_cons]
  rcases List.mem_cons.1 hx with rfl|hx
  ·
   omega
  ·
   have:=qhr t (fun w hw=>h w (by simp [hw])) x hx
   have:=h y (by simp)
   omega
theorem Jh {n:Nat} (hn:1≤n) {m:List Int}:m∈Jz (n-1) 100 []↔m.length=n∧(∀ x∈m,0≤x)∧m.sum=100:=by
 rw [qaU _ _ _ _ (by decide)]
 constructor
 ·
  rintro ⟨t,rfl,hl,h0,h1⟩
  exact ⟨by first|omega|(simp;omega),by simpa using h0,by simpa using h1⟩
 ·
  rintro ⟨hl,h0,h1⟩
  exact ⟨m,rfl,by omega,h0,h1⟩
theorem OE {n:Nat} (hn:1≤n) {m:List Int} (h:m∈Jz (n-1) 100 []):Mx m n:=by
 obtain ⟨hl,h0,h1⟩:=(Jh hn).1 h
 refine ⟨hl,fun r hr => ?_,fun r hr => ?_⟩
 ·
  rw [rdN m r (by omega)];exact h0 _ (List.getElem_mem _)
 ·
  rw [rdN m r (by omega),← h1];exact qhr m h0 _ (List.getElem_mem _)
def shOk (l0:List (List S25)) (l1:List S25):Bool:=wi (l0.length:Int) 1 3&&areS (l1.length:Int) l1&&l0.all (areS (l1.length:Int))
def shO (l0:List (List S25)) (l1:List S25):List S25:=(Jz (l0.length-1) 100 []).foldl (stP l0 l1) []
def shT (l0:List (List S25)) (l1:List S25):List S25 × Int:=if shOk l0 l1 then (if shO l0 l1=[] then ([],4) else (shO l0 l1,0)) else ([],91)
theorem qiM {l0:List (List S25)} {l1:List S25} (h:shOk l0 l1=true):Sg l0 l1.length∧l1.all spS=true:=by
 unfold shOk at h
 rw [Bool.and_eq_true,Bool.and_eq_true] at h
 have h2:=h.1.2
 unfold areS at h2
 rw [Bool.and_eq_true,Bool.and_eq_true] at h2
 exact ⟨Sg.of h.1.1 h2.1.1 h.2,h2.2⟩
theorem qdc (l0:List (List S25)) (l1:List S25) (h0:∀ x∈l0,x.length≤9223372036854775807) (h1:l1.length≤9223372036854775807):Ev (fun q=>Qo.f q l0 l1) (shT l0 l1):=by
 refine Ev.congr (f:=fun q=>((if wi (l0.length:Int) 1 3 then Qy.f q l1 (l1.length:Int) else some false).bind fun b1=>(Qo.sg q (l1.length:Int) l0 b1).bind fun ok=>if ok then (Qo.all q l0 l1 (Jz (l0.length-1) 100 []) []).map fun out=>if out=[] then ([],4) else (out,0) else some ([],91))) (fun q=>by rw [Qo.f,qbi,Option.bind_some]) ?_
 have hB:Ev (fun q=>if wi (l0.length:Int) 1 3 then Qy.f q l1 (l1.length:Int) else some false) (wi (l0.length:Int) 1 3&&areS (l1.length:Int) l1):=by
  cases hw:wi (l0.length:Int) 1 3 with
  | false=>exact Ev.now _
  | true=>exact Ev.congr (fun q=>rfl) (qa7 l1 _ h1)
 refine Ev.bind hB (Ev.bind (qlG _ l0 _ h0) ?_)
 cases hok:shOk l0 l1 with
 | false =>
  have e:(wi (l0.length:Int) 1 3&&areS (l1.length:Int) l1&&l0.all (areS (l1.length:Int)))=false:=hok
  rw [e,shT,hok]
  exact Ev.now _
 | true =>
  have e:(wi (l0.length:Int) 1 3&&areS (l1.length:Int) l1&&l0.all (areS (l1.length:Int)))=true:=hok
  obtain ⟨hs,hv⟩:=qiM hok
  rw [e,shT,hok,if_pos rfl]
  refine Ev.congr (f:=fun q=>(Qo.all q l0 l1 (Jz (l0.length-1) 100 []) []).bind fun out=>some (if out=[] then ([],4) else (out,0))) (fun q=>by rw [if_pos rfl,Option.map_eq_bind];rfl) ?_
  exact Ev.bind (qkK hs hv _ _ (fun m hm=>OE hs.r1 hm)) (Ev.now _)
def Fo (n:Nat) (A:List Int→Prop) (L:List (List Int)) (out:List S25):Prop :=
 (out=[] ∧ ∀ m∈L,¬A m)∨(out.length=n∧(∃ m∈L,A m) ∧ ∀ r:Nat,r<n→(∀ m∈L,A m→(Qs out (r:Int)).f0≤rd m (r:Int)∧rd m (r:Int)≤(Qs out (r:Int)).f1)∧(∃ m∈L,A m∧rd m (r:Int)=(Qs out (r:Int)).f0)∧(∃ m∈L,A m∧rd m (r:Int)=(Qs out (r:Int)).f1))
theorem qiP (o:List S25) (m:List Int) (h:o.length=m.length):(Qo.wide o m).length=o.length:=by simp [Qo.wide,h]
theorem qiQ (o:List S25) (m:List Int) (r:Nat) (h0:r<o.length) (h1:r<m.length):Qs (Qo.wide o m) (r:Int)=⟨if rd m (r:Int)<(Qs o (r:Int)).f0 then rd m (r:Int) else (Qs o (r:Int)).f0,if (Qs o (r:Int)).f1<rd m (r:Int) then rd m (r:Int) else (Qs o (r:Int)).f1⟩:=by
 rw [qbp (Qo.wide o m) r (by simp [Qo.wide];omega),qbp o r h0,rdN m r h1]
 simp [Qo.wide]
theorem qia (l0:List (List S25)) (l1:List S25) (n:Nat) (hn:1≤n):∀ (L L':List (List Int)) (out:List S25),(∀ m∈L,m.length=n)→Fo n (fun m=>agB l0 l1 m=true) L' out→Fo n (fun m=>agB l0 l1 m=true) (L'++L) (L.foldl (stP l0 l1) out)
 | [],L',out,_,h=>by simpa using h
 | m::L,L',out,hL,h=>by
  have hm:m.length=n:=hL m (by simp)
  rw [List.foldl_cons,show L'++m::L=(L'++[m])++L by simp]
  refine qia l0 l1 n hn L (L'++[m]) _ (fun x hx=>hL x (by simp [hx])) ?_
  rw [stP]
  cases ha:agB l0 l1 m with
  | false =>
   rw [if_neg (by decide)]
   rcases h with ⟨e,h⟩|⟨e,⟨q,hq,hq2⟩,h⟩
   ·
    refine .inl ⟨e,fun x hx => ?_⟩
    rcases List.mem_append.1 hx with hx|hx
    ·
     exact h x hx
    ·
     rw [List.mem_singleton.1 hx];intro hc;rw [ha] at hc;exact absurd hc (by decide)
   ·
    refine .inr ⟨e,⟨q,by simp [hq],hq2⟩,fun r hr => ?_⟩;obtain ⟨h1,⟨x,hx,hx2⟩,⟨y,hy,hy2⟩⟩:=h r hr;refine ⟨fun z hz hA => ?_,⟨x,by simp [hx],hx2⟩,⟨y,by simp [hy],hy2⟩⟩
    rcases List.mem_append.1 hz with hz|hz
    ·
     exact h1 z hz hA
    ·
     rw [List.mem_singleton.1 hz,ha] at hA;exact absurd hA (by decide)
  | true =>
   rw [if_pos rfl]
   rcases h with ⟨e,h⟩|⟨e,⟨q,hq,hq2⟩,h⟩
   ·
    rw [if_pos e]
    have hl:(m.map (fun n=>(⟨n,n⟩:S25))).length=m.length:=by simp
    refine .inr ⟨by rw [qiP _ _ hl,hl,hm],⟨m,by simp,ha⟩,fun r hr => ?_⟩
    have hv:Qs (Qo.wide (m.map (fun n=>(⟨n,n⟩:S25))) m) (r:Int)=⟨rd m (r:Int),rd m (r:Int)⟩:=by
     rw [qiQ _ _ r (by omega) (by omega),qbp _ r (by omega),rdN m r (by omega)]
     simp
    rw [hv];refine ⟨fun z hz hA => ?_,⟨m,by simp,ha,rfl⟩,⟨m,by simp,ha,rfl⟩⟩
    rcases List.mem_append.1 hz with hz|hz
    ·
     exact absurd hA (h z hz)
    ·
     rw [List.mem_singleton.1 hz];exact ⟨Int.le_refl _,Int.le_refl _⟩
   ·
    have hne:out≠[]:=by rintro rfl;simp at e;omega
    rw [if_neg hne];refine .inr ⟨by rw [qiP _ _ (by omega),e],⟨m,by simp,ha⟩,fun r hr => ?_⟩;obtain ⟨h1,⟨x,hx,hx2,hx3⟩,⟨y,hy,hy2,hy3⟩⟩:=h r hr;have hq3:=h1 q hq hq2;rw [qiQ out m r (by omega) (by omega)];obtain ⟨s,hs⟩:∃ s,Qs out (r:Int)=s:=⟨_,rfl⟩;rw [hs] at h1 hx3 hy3 hq3 ⊢;refine ⟨fun z hz hA => ?_,?_,?_⟩
    ·
     rcases List.mem_append.1 hz with hz|hz
     ·
      have:=h1 z hz hA
      dsimp only
      split<;>split<;>omega
     ·
      rw [List.mem_singleton.1 hz]
      dsimp only
      split<;>split<;>omega
    ·
     dsimp only
     by_cases c:rd m (r:Int)<s.f0
     ·
      exact ⟨m,by simp,ha,by rw [if_pos c]⟩
     ·
      exact ⟨x,by simp [hx],hx2,by rw [if_neg c];exact hx3⟩
    ·
     dsimp only
     by_cases c:s.f1<rd m (r:Int)
     ·
      exact ⟨m,by simp,ha,by rw [if_pos c]⟩
     ·
      exact ⟨y,by simp [hy],hy2,by rw [if_neg c];exact hy3⟩
theorem qlH (l0:List (List S25)) (l1:List S25) (h1:1≤l0.length):Fo l0.length (fun m=>agB l0 l1 m=true) (Jz (l0.length-1) 100 []) (shO l0 l1):=by
 have:=qia l0 l1 l0.length h1 (Jz (l0.length-1) 100 []) [] [] (fun m hm=>(OE h1 hm).ln) (.inl ⟨rfl,by simp⟩)
 simpa [shO] using this
end
section
theorem qjI {l0:List (List S25)} {l1:List S25} (hs:Sg l0 l1.length):Ev (fun k=>Qg.f k l0 l1) true:=by
 have h3:=hs.r3
 have h6:=hs.n6
 have r1:=hs.r1
 have n1:=hs.n1
 have inner:∀ (r:Nat),r<l0.length→Ev (fun k=>Qg.l0 k l0 l1 true ((r+1:Nat):Int)) true → ∀ (d i:Nat),i+d=l1.length→Ev (fun k=>Qg.l1 k l0 l1 true (r:Int) (i:Int)) true:=by
  intro r hr hE d
  have hwr:=wr1 r l0.length hr (by omega)
  have gr:(r:Int)<(l0.length:Int):=Int.ofNat_lt.2 hr
  have gr0:(0:Int)≤(r:Int):=Int.natCast_nonneg r
  induction d with
  | zero =>
   intro i hi
   refine Ev.step (f:=fun k=>Qg.l0 k l0 l1 true ((r+1:Nat):Int)) (fun k => ?_) hE
   simp only [Qg.l1,hwr]
   rw [if_pos trivial,if_neg (by omega)]
  | succ d ih =>
   intro i hi
   have hlt:i<l1.length:=by omega
   have hw:=wr1 i l1.length hlt (by omega)
   have hln:=hs.ln r hr
   have hsp:=hs.sp r i hr hlt
   have e:sp (Qs (Yh l0 (r:Int)) (i:Int)).f0 (Qs (Yh l0 (r:Int)) (i:Int)).f1 100=true:=by unfold sp;exact decide_eq_true hsp
   refine Ev.step (f:=fun k=>Qg.l1 k l0 l1 true (r:Int) ((i+1:Nat):Int)) (fun k => ?_) (ih (i+1) (by omega))
   simp only [Qg.l1,XB,Option.bind_some,hw]
   rw [if_pos trivial,if_pos (by omega),if_pos gr0,if_pos gr,if_pos (by omega),if_pos (by omega),e]
 have outer:∀ (d r:Nat),r+d=l0.length→Ev (fun k=>Qg.l0 k l0 l1 true (r:Int)) true:=by
  intro d
  induction d with
  | zero =>
   intro r hr
   refine Ev.step (f:=fun k=>Qg.j2 k l0 l1 true (r:Int) false) (fun k => ?_) ?_
   ·
    simp only [Qg.l0];rw [if_pos trivial,decide_eq_false (by omega)]
   ·
    refine Ev.step (f:=fun _=>some true) (fun k => ?_) (Ev.now _)
    simp [Qg.j2]
  | succ d ih =>
   intro r hr
   have hlt:r<l0.length:=by omega
   have hln:=hs.ln r hlt
   refine Ev.step (f:=fun k=>Qg.j2 k l0 l1 true (r:Int) true) (fun k => ?_) ?_
   ·
    simp only [Qg.l0];rw [if_pos trivial,decide_eq_true (by omega)]
   ·
    refine Ev.step (f:=fun k=>Qg.l1 k l0 l1 true (r:Int) ((0:Nat):Int)) (fun k => ?_) (inner r hlt (ih (r+1) (by omega)) l1.length 0 (by omega));simp only [Qg.j2];rw [if_pos trivial,if_pos (by omega),if_pos (by omega),hln]
    simp
 have e1:wi (l0.length:Int) 1 3=true:=OI.2 ⟨by omega,by omega⟩
 have e2:wi (l1.length:Int) 1 6=true:=OI.2 ⟨by omega,by omega⟩
 refine Ev.congr (f:=fun k=>Qg.j0 k l0 l1 true) (fun k => ?_) (Ev.step (f:=fun k=>Qg.l0 k l0 l1 true ((0:Nat):Int)) (fun k => ?_) (outer l0.length 0 (by omega)))
 ·
  simp only [Qg.f,qbt,Option.bind_some,e1,e2]
  rw [if_pos trivial]
 ·
  simp [Qg.j0]
theorem qlr (n:Nat) (h1:1≤n) (h3:n≤3) (b:List Int) (hb:b.length*8≤140737488351232):∃ m,m∈Jz (n-1) 100 []∧Ev (fun k=>Yj.f k (n:Int) b) m:=by
 have hw1:wrap64 ((n:Int)-1)=(n:Int)-1:=by unfold wrap64;omega
 have loop:∀ (d i:Nat) (x:List Int) (left:Int),i+d+1=n→x.length=i→(∀ y∈x,0≤y)→0≤left→left≤100→x.sum+left=100 → ∃ m,(m.length=n∧(∀ y∈m,0≤y)∧m.sum=100)∧Ev (fun k=>Yj.l0 k (n:Int) b x left (i:Int)) m:=by
  intro d
  induction d with
  | zero =>
   intro i x left hi hx h0 hl hl2 hs
   refine ⟨x++[left],⟨by simp;omega,?_,by simp;omega⟩,Ev.step (f:=fun _=>some (x++[left])) (fun k => ?_) (Ev.now _)⟩
   ·
    intro y hy
    rcases List.mem_append.1 hy with hy|hy
    ·
     exact h0 y hy
    ·
     rw [List.mem_singleton.1 hy];exact hl
   ·
    simp only [Yj.l0,hw1]
    rw [if_neg (by omega),if_pos (by omega)]
  | succ d ih =>
   intro i x left hi hx h0 hl hl2 hs
   have hw:=wr1 i n (by omega) (by omega)
   obtain ⟨p,ep⟩:=qpf b (i:Int) hb
   have e1:wrap64 (left+1)=left+1:=by unfold wrap64;omega
   obtain ⟨c,ec,c0,c1⟩:=modB p (left+1) (by omega) (by omega)
   have e2:wrap64 (left-c)=left-c:=by unfold wrap64;omega
   obtain ⟨m,hm,hE⟩:=ih (i+1) (x++[c]) (left-c) (by omega) (by simp;omega) (fun y hy=>by
    rcases List.mem_append.1 hy with hy|hy
    ·
     exact h0 y hy
    ·
     rw [List.mem_singleton.1 hy];exact c0) (by omega) (by omega) (by simp;omega)
   refine ⟨m,hm,Ev.step (fun k => ?_) hE⟩
   simp only [Yj.l0,hw1]
   rw [if_pos (by omega),ep,Option.bind_some,e1,ec,Option.bind_some,if_pos (by omega),e2,hw]
 obtain ⟨m,hm,hE⟩:=loop (n-1) 0 [] 100 (by omega) rfl (by simp) (by decide) (by decide) (by simp)
 exact ⟨m,(Jh h1).2 hm,hE⟩
theorem qkS (mix:List Int) (l0:List (List S25)) (k:Int):∀ j:Nat,j≤mix.length→dl (fun _=>1) mix l0 k j=(mix.take j).sum
 | 0,_=>by simp [dl]
 | j+1,h=>by
  rw [dl,qkS mix l0 k j (by omega),List.take_add_one,List.getElem?_eq_getElem (by omega),rdN mix j (by omega),Option.toList_some,List.sum_append,List.sum_cons,List.sum_nil]
  omega
theorem qkR {l0:List (List S25)} {n:Nat} {mix:List Int} (hm:Mx mix l0.length) (g h:S25→Int) (k:Nat) (c:∀ r:Nat,r<l0.length→g (Qs (Yh l0 (r:Int)) (k:Int))≤h (Qs (Yh l0 (r:Int)) (k:Int))):∀ j:Nat,j≤l0.length→dl g mix l0 k j≤dl h mix l0 k j
 | 0,_=>Int.le_refl _
 | j+1,hj=>by
  rw [dl,dl]
  exact Int.add_le_add (qkR (n:=n) hm g h k c j (by omega)) (Int.mul_le_mul_of_nonneg_left (c j (by omega)) (hm.lo j (by omega)))
theorem qcs (mix:List Int) (l0:List (List S25)) (k:Int):∀ j:Nat,dl (fun _=>100) mix l0 k j=100*dl (fun _=>1) mix l0 k j
 | 0=>by simp [dl]
 | j+1=>by rw [dl,dl,qcs mix l0 k j];omega
theorem qkT {l0:List (List S25)} {n:Nat} (hs:Sg l0 n) {mix:List Int} (hx:mix∈Jz (l0.length-1) 100 []) (k:Nat) (hk:k<n):0≤dl S25.f0 mix l0 k l0.length∧dl S25.f0 mix l0 k l0.length≤dl S25.f1 mix l0 k l0.length∧dl S25.f1 mix l0 k l0.length≤10000:=by
 have hm:=OE hs.r1 hx
 obtain ⟨e1,e2,e3⟩:=(Jh hs.r1).1 hx
 have h1:=qkR (n:=n) hm S25.f0 S25.f1 k (fun r hr=>(hs.sp r k hr hk).2.1) l0.length (Nat.le_refl _)
 have h2:=qkR (n:=n) hm S25.f1 (fun _=>100) k (fun r hr=>(hs.sp r k hr hk).2.2) l0.length (Nat.le_refl _)
 have h3:=qkS mix l0 k l0.length (by omega)
 have h4:mix.take l0.length=mix:=List.take_of_length_le (by omega)
 have h5:=qcs mix l0 k l0.length
 rw [h4,e3] at h3
 have h0:=dl_b hs hm S25.f0 (fun r k hr hk=>⟨(hs.sp r k hr hk).1,Int.le_trans (hs.sp r k hr hk).2.1 (hs.sp r k hr hk).2.2⟩) k hk l0.length (Nat.le_refl _)
 exact ⟨h0.1,h1,by omega⟩
theorem qh8 (a:Int) (h0 : -20000000≤a) (h1:a≤20000000):ZA.f a 100=some (a / 100):=by
 unfold ZA.f
 rw [modP a 100 (by decide) (by decide),Option.bind_some,if_neg (by decide)]
 have e1:wrap64 (a-a % 100)=a-a % 100:=by unfold wrap64;omega
 have e2:(a-a % 100).tdiv 100=a / 100:=by
  have e3:a-a % 100=100*(a / 100):=by omega
  rw [e3,Int.mul_tdiv_cancel_left _ (by decide)]
 rw [e1,e2]
 congr 1
 unfold wrap64
 omega
theorem qqo (a:Int) (h0 : -20000000≤a) (h1:a≤20000000):JD.f a 100=some (-(-a / 100)):=by
 unfold JD.f
 have e1:wrap64 (-a) = -a:=by unfold wrap64;omega
 rw [e1,qh8 (-a) (by omega) (by omega),Option.bind_some]
 congr 1
 unfold wrap64
 omega
end
section
def abt (n:Nat):List S25:=List.replicate n ⟨0,100⟩
theorem KA (n:Nat):(abt n).length=n:=by simp [abt]
theorem qpx (n k:Nat) (h:k<n):Qs (abt n) (k:Int)=⟨0,100⟩:=by rw [qbp (abt n) k (by rw [KA];exact h)];simp [abt]
theorem qaR {l0:List (List S25)} {n:Nat} (hs:Sg l0 n) {m:List Int} (hm:m∈Jz (l0.length-1) 100 []):agB l0 (abt n) m=true:=by
 rw [qh3]
 intro k hk
 rw [KA] at hk
 obtain ⟨h0,h1,h2⟩:=qkT hs hm k hk
 rw [qpx n k hk]
 dsimp only
 omega
theorem qlJ {n:Nat} (h1:1≤n) (h3:n≤3) (r:Nat) (hr:r<n):∃ m,m∈Jz (n-1) 100 []∧rd m (r:Int)=100:=by
 have:(n=1∧r=0)∨(n=2∧r=0)∨(n=2∧r=1)∨(n=3∧r=0)∨(n=3∧r=1)∨(n=3∧r=2):=by omega
 rcases this with ⟨rfl,rfl⟩|⟨rfl,rfl⟩|⟨rfl,rfl⟩|⟨rfl,rfl⟩|⟨rfl,rfl⟩|⟨rfl,rfl⟩
 ·
  exact ⟨[100],(Jh (by decide)).2 (by simp),rfl⟩
 ·
  exact ⟨[100,0],(Jh (by decide)).2 (by simp),rfl⟩
 ·
  exact ⟨[0,100],(Jh (by decide)).2 (by simp),rfl⟩
 ·
  exact ⟨[100,0,0],(Jh (by decide)).2 (by simp),rfl⟩
 ·
  exact ⟨[0,100,0],(Jh (by decide)).2 (by simp),rfl⟩
 ·
  exact ⟨[0,0,100],(Jh (by decide)).2 (by simp),rfl⟩
theorem qlt {n:Nat} (h1:2≤n) (h3:n≤3) (r:Nat) (hr:r<n):∃ m,m∈Jz (n-1) 100 []∧rd m (r:Int)=0:=by
 have:(n=2∧r=0)∨(n=2∧r=1)∨(n=3∧r=0)∨(n=3∧r=1)∨(n=3∧r=2):=by omega
 rcases this with ⟨rfl,rfl⟩|⟨rfl,rfl⟩|⟨rfl,rfl⟩|⟨rfl,rfl⟩|⟨rfl,rfl⟩
 ·
  exact ⟨[0,100],(Jh (by decide)).2 (by simp),rfl⟩
 ·
  exact ⟨[100,0],(Jh (by decide)).2 (by simp),rfl⟩
 ·
  exact ⟨[0,0,100],(Jh (by decide)).2 (by simp),rfl⟩
 ·
  exact ⟨[0,0,100],(Jh (by decide)).2 (by simp),rfl⟩
 ·
  exact ⟨[0,100,0],(Jh (by decide)).2 (by simp),rfl⟩
theorem OG {l0:List (List S25)} {l1:List S25} (hs:Sg l0 l1.length) {m:List Int} (hm:m∈Jz (l0.length-1) 100 []) (ha:agB l0 l1 m=true) :
  (shO l0 l1).length=l0.length ∧ ∀ r:Nat,r<l0.length→0≤(Qs (shO l0 l1) (r:Int)).f0∧(Qs (shO l0 l1) (r:Int)).f0≤rd m (r:Int)∧rd m (r:Int)≤(Qs (shO l0 l1) (r:Int)).f1∧(Qs (shO l0 l1) (r:Int)).f1≤100:=by
 rcases qlH l0 l1 hs.r1 with ⟨_,h⟩|⟨e,_,h⟩
 ·
  exact absurd ha (h m hm)
 ·
  refine ⟨e,fun r hr => ?_⟩
  obtain ⟨h1,⟨x,hx,_,hx2⟩,⟨y,hy,_,hy2⟩⟩:=h r hr
  obtain ⟨g0,g1⟩:=h1 m hm ha
  exact ⟨hx2 ▸ (OE hs.r1 hx).lo r hr,g0,g1,hy2 ▸ (OE hs.r1 hy).hi r hr⟩
theorem qf1 {l0:List (List S25)} {l1:List S25} (hok:shOk l0 l1=true) (hs:Sg l0 l1.length) {m:List Int} (hm:m∈Jz (l0.length-1) 100 []) (ha:agB l0 l1 m=true):shT l0 l1=(shO l0 l1,0):=by
 have h:=(OG hs hm ha).1
 have h1:=hs.r1
 have hne:shO l0 l1≠[]:=by intro e;rw [e] at h;simp at h;omega
 rw [shT,hok,if_pos rfl,if_neg hne]
theorem qlL {N X D r:Int} (b1:N≤D) (u3:D≤10000*r) (r3:r≤3) (x:X≤10000):N+X≤1000000000:=by omega
theorem qhp {N A B:Int} (b0:A≤N) (b1:N≤B) (t0:0≤A) (t2:B≤10000):(-20000000≤N∧N≤20000000)∧(0≤N / 100∧N / 100 ≤ -(-N / 100) ∧ -(-N / 100)≤100)∧A≤100 * -(-N / 100)∧100*(N / 100)≤B:=by omega
section
variable (l0:List (List S25)) (b:List Int) (hl0:l0.length≤9223372036854775807) (hl:∀ x∈l0,x.length≤9223372036854775807) (hb:b.length*8≤140737488351232)
include hl0 hl hb
theorem qgT (n:Nat) (hs:Sg l0 n) (m:List Int) (hm:m∈Jz (l0.length-1) 100 []) (l1:List S25) (h1:l1.length=n) (ha:agB l0 l1 m=true):∀ (d r:Nat),r+d=l0.length →
  Ev (fun k=>Q9.l3 k l0 (shO l0 (abt n)) m (shO l0 l1) (r:Int)) true:=by
 subst h1
 have hA:=OG hs hm ha
 have hM:=(OE hs.r1 hm).ln
 have hF:=qlH l0 (abt l1.length) hs.r1
 have h3:=hs.r3
 have hB:=OG (l1:=abt l1.length) (by rw [KA];exact hs) hm (qaR hs hm)
 intro d
 induction d with
 | zero =>
  intro r hr
  refine Ev.step (f:=fun _=>some true) (fun k => ?_) (Ev.now _)
  simp only [Q9.l3]
  rw [if_neg (by omega)]
  simp [Zt.f]
 | succ d ih =>
  intro r hr
  have hlt:r<l0.length:=by omega
  have hw:=wr1 r l0.length hlt (by omega)
  have g0:(0:Int)≤(r:Int):=Int.natCast_nonneg r
  obtain ⟨a0,a1,a2,a3⟩:=hA.2 r hlt
  obtain ⟨b0,b1,b2,b3⟩:=hB.2 r hlt
  have e1:wi (rd m (r:Int)) (Qs (shO l0 l1) (r:Int)).f0 (Qs (shO l0 l1) (r:Int)).f1=true:=OI.2 ⟨a1,a2⟩
  have e2:sp (Qs (shO l0 l1) (r:Int)).f0 (Qs (shO l0 l1) (r:Int)).f1 100=true:=by unfold sp;exact decide_eq_true ⟨a0,by omega,a3⟩
  refine Ev.step (f:=fun k=>Q9.j7 k l0 (shO l0 (abt l1.length)) m (shO l0 l1) (r:Int) false) (fun k => ?_) ?_
  ·
   simp only [Q9.l3,Jg.f,qbt,XB,Option.bind_some]
   rw [if_pos (by omega),if_pos g0,if_pos (by omega),e1,e2]
   rfl
  ·
   obtain ⟨x,hx,hx2⟩:=qlJ hs.r1 h3 r hlt
   have hA1:=(OG (l1:=abt l1.length) (by rw [KA];exact hs) hx (qaR hs hx)).2 r hlt
   rw [hx2] at hA1
   obtain ⟨q,hq⟩:∃ q,Qs (shO l0 (abt l1.length)) (r:Int)=q:=⟨_,rfl⟩
   rw [hq] at hA1 b0 b3
   have t1:q.f1=100:=by omega
   by_cases c:l0.length=1
   ·
    have t0:q.f0=100:=by
     have hr0:r=0:=by omega
     rcases hF with ⟨_,h⟩|⟨_,_,h⟩
     ·
      exact absurd (qaR hs hm) (h m hm)
     ·
      obtain ⟨_,⟨y,hy,_,hy2⟩,_⟩:=h r hlt;rw [hq] at hy2;obtain ⟨y1,y2,y3⟩:=(Jh hs.r1).1 hy;rw [c] at y1
      match y,y1 with
      | [z],_ =>
       simp at y3
       subst hr0;rw [← hy2,← y3]
       rfl
    refine Ev.step (f:=fun k=>Q9.l3 k l0 (shO l0 (abt l1.length)) m (shO l0 l1) ((r+1:Nat):Int)) (fun k => ?_) (ih (r+1) (by omega));simp only [Q9.j7,Qt.f,Option.bind_some,hw,hq,t0,t1];rw [if_neg (by decide),if_neg (by omega),if_pos (by omega),if_pos g0,if_pos (by omega),if_neg (by decide)]
   ·
    obtain ⟨y,hy,hy2⟩:=qlt (n:=l0.length) (by have:=hs.r1;omega) h3 r hlt;have hA2:=(OG (l1:=abt l1.length) (by rw [KA];exact hs) hy (qaR hs hy)).2 r hlt;rw [hq,hy2] at hA2
    have t0:q.f0=0:=by omega
    refine Ev.step (f:=fun k=>Q9.l3 k l0 (shO l0 (abt l1.length)) m (shO l0 l1) ((r+1:Nat):Int)) (fun k => ?_) (ih (r+1) (by omega));simp only [Q9.j7,Qt.f,Option.bind_some,hw,hq,t0,t1];rw [if_neg (by decide),if_pos (by have:=hs.r1;omega),if_pos g0,if_pos (by omega),if_neg (by decide),if_neg (by omega)]
structure Nw (n:Nat) (m:List Int) (x:List S25) (i:Nat):Prop where
 ln:x.length=i
 ok:∀ k:Nat,k<i→spS (Qs x (k:Int))=true∧dl S25.f0 m l0 (k:Int) l0.length≤100*(Qs x (k:Int)).f1∧100*(Qs x (k:Int)).f0≤dl S25.f1 m l0 (k:Int) l0.length
omit hl0 hl hb in
theorem Nw.push {n:Nat} {m:List Int} {x:List S25} {i:Nat} (h:Nw l0 n m x i) (s:S25) (hs:spS s=true) (h0:dl S25.f0 m l0 (i:Int) l0.length≤100*s.f1) (h1:100*s.f0≤dl S25.f1 m l0 (i:Int) l0.length):Nw l0 n m (x++[s]) (i+1):=by
 have hln:=h.ln
 refine ⟨by simp [hln],fun k hk => ?_⟩
 by_cases c:k=i
 ·
  subst c
  have:Qs (x++[s]) (k:Int)=s:=by rw [qbp _ k (by simp;omega)];simp [hln]
  rw [this]
  exact ⟨hs,h0,h1⟩
 ·
  have hk':k<x.length:=by omega
  have:Qs (x++[s]) (k:Int)=Qs x (k:Int):=by rw [qbp _ k (by simp;omega),qbp x k hk',List.getElem_append_left hk']
  rw [this]
  exact h.ok k (by omega)
theorem qfK (n:Nat) (hs:Sg l0 n) (m:List Int) (hm:m∈Jz (l0.length-1) 100 []) (x:List S25) (i:Nat) (hi:i<n) (hx:Nw l0 n m x i)
  (hE:∀ s:S25,Nw l0 n m (x++[s]) (i+1)→Ev (fun k=>Q9.l1 k l0 b (abt n) (shO l0 (abt n)) m (x++[s]) ((i+1:Nat):Int)) true) :
  ∀ (d r:Nat) (N:Int),r+d=l0.length→dl S25.f0 m l0 (i:Int) r≤N→N≤dl S25.f1 m l0 (i:Int) r→Ev (fun k=>Q9.l2 k l0 b (abt n) (shO l0 (abt n)) m x (i:Int) N (r:Int)) true:=by
 have h3:=hs.r3
 have h6:=hs.n6
 have hM:=OE hs.r1 hm
 have hln:=hx.ln
 have gi0:(0:Int)≤(i:Int):=Int.natCast_nonneg i
 intro d
 induction d with
 | zero =>
  intro r N hr b0 b1
  have hr':r=l0.length:=by omega
  subst hr'
  obtain ⟨t0,t1,t2⟩:=qkT hs hm i hi
  have qBn:x.length<8796093022208:=by clear t0 t1 t2 b0 b1;omega
  have hwi:=wr1 i n hi (by clear t0 t1 t2 b0 b1;omega)
  have Z:=qhp b0 b1 t0 t2
  refine Ev.step (f:=fun k=>Q9.l1 k l0 b (abt n) (shO l0 (abt n)) m (x++[⟨N / 100,-(-N / 100)⟩]) ((i+1:Nat):Int)) (fun k => ?_) (hE _ (hx.push l0 _ ?_ ?_ ?_))
  ·
   simp only [Q9.l2,Qt.f,hwi]
   rw [if_neg (Int.lt_irrefl _),qh8 N Z.1.1 Z.1.2,Option.bind_some,qqo N Z.1.1 Z.1.2,Option.bind_some,Option.bind_some,if_pos qBn]
  ·
   exact qb8.2 Z.2.1
  ·
   exact Z.2.2.1
  ·
   exact Z.2.2.2
 | succ d ih =>
  intro r N hr b0 b1
  have hlt:r<l0.length:=by omega
  have hl3:=hs.ln r hlt
  have hsp:=hs.sp r i hlt hi
  have f1:(r:Int)<(l0.length:Int):=Int.ofNat_lt.2 hlt
  have f2:(0:Int)≤(r:Int):=Int.natCast_nonneg r
  have f3:(r:Int)<(m.length:Int):=by have:=hM.ln;omega
  have f4:(i:Int)<((Yh l0 (r:Int)).length:Int):=by omega
  have f5:r≤l0.length:=by omega
  have f6:(r+1)+d=l0.length:=by omega
  have f7:(r:Int)≤3:=by omega
  have hw:=wr1 r l0.length hlt (by omega)
  obtain ⟨p,ep⟩:=qpf b (wrap64 ((wrap64 ((wrap64 (3*(i:Int)))+(r:Int)))+2)) hb
  obtain ⟨c,ec,c0,c1⟩:=qmg (Qs (Yh l0 (r:Int)) (i:Int)).f0 (Qs (Yh l0 (r:Int)) (i:Int)).f1 p hsp.1 hsp.2.1 (Int.le_trans hsp.2.2 (by decide))
  have u0:=hM.lo r hlt
  have u1:=hM.hi r hlt
  have u2:=dl_b hs hM S25.f0 (fun r k hr hk=>⟨(hs.sp r k hr hk).1,Int.le_trans (hs.sp r k hr hk).2.1 (hs.sp r k hr hk).2.2⟩) i hi r f5
  have u3:=dl_b hs hM S25.f1 (fun r k hr hk=>⟨Int.le_trans (hs.sp r k hr hk).1 (hs.sp r k hr hk).2.1,(hs.sp r k hr hk).2.2⟩) i hi r f5
  have u4:=qls u0 u1 (Int.le_trans hsp.1 c0) (Int.le_trans c1 hsp.2.2)
  have u5:rd m (r:Int)*(Qs (Yh l0 (r:Int)) (i:Int)).f0≤rd m (r:Int)*c:=Int.mul_le_mul_of_nonneg_left c0 u0
  have u6:rd m (r:Int)*c≤rd m (r:Int)*(Qs (Yh l0 (r:Int)) (i:Int)).f1:=Int.mul_le_mul_of_nonneg_left c1 u0
  have e1:wrap64 (rd m (r:Int)*c)=rd m (r:Int)*c:=w64s u4.1 (Int.le_trans u4.2 (by decide))
  have e2:wrap64 (N+rd m (r:Int)*c)=N+rd m (r:Int)*c:=w64s (Int.add_nonneg (Int.le_trans u2.1 b0) u4.1) (qlL b1 u3.2 f7 u4.2)
  refine Ev.step (f:=fun k=>Q9.l2 k l0 b (abt n) (shO l0 (abt n)) m x (i:Int) (N+rd m (r:Int)*c) ((r+1:Nat):Int)) (fun k => ?_) (ih (r+1) _ f6 ?_ ?_)
  ·
   simp only [Q9.l2,hw]
   rw [if_pos f1,if_pos f2,if_pos f3,if_pos gi0,if_pos f4,ep,Option.bind_some,ec,Option.bind_some,e1,e2]
  ·
   rw [dl]
   exact Int.add_le_add b0 u5
  ·
   rw [dl]
   exact Int.add_le_add b1 u6
theorem qfL (n:Nat) (hs:Sg l0 n) (m:List Int) (hm:m∈Jz (l0.length-1) 100 []):∀ (d i:Nat) (x:List S25),i+d=n→Nw l0 n m x i→Ev (fun k=>Q9.l1 k l0 b (abt n) (shO l0 (abt n)) m x (i:Int)) true:=by
 intro d
 induction d with
 | zero =>
  intro i x hi hx
  have hi':i=n:=by omega
  subst hi'
  have h6:=hs.n6
  have h1:=hs.n1
  have h3:=hs.r3
  have r1:=hs.r1
  have hln:=hx.ln
  have hsx:Sg l0 x.length:=by rw [hln];exact hs
  have ha:agB l0 x m=true:=by
   rw [qh3]
   intro k hk
   exact (hx.ok k (by omega)).2
  have hv:x.all spS=true:=by
   rw [List.all_eq_true]
   intro y hy
   obtain ⟨k,hk,rfl⟩:=List.getElem_of_mem hy
   have:=(hx.ok k (by omega)).1
   rw [qbp x k hk] at this
   exact this
  have hok:shOk l0 x=true:=by
   unfold shOk
   rw [Bool.and_eq_true,Bool.and_eq_true]
   refine ⟨⟨OI.2 ⟨by omega,by omega⟩,?_⟩,?_⟩
   ·
    unfold areS;rw [Bool.and_eq_true,Bool.and_eq_true]
    exact ⟨⟨OI.2 ⟨by omega,by omega⟩,by simp⟩,hv⟩
   ·
    rw [List.all_eq_true];intro y hy;obtain ⟨r,hr,rfl⟩:=List.getElem_of_mem hy;have hyl:=hs.ln r hr;have hys:=hs.sp r;rw [qqn l0 r hr] at hyl hys;unfold areS;rw [Bool.and_eq_true,Bool.and_eq_true];refine ⟨⟨OI.2 ⟨by omega,by omega⟩,by rw [hyl,hln];simp⟩,?_⟩;rw [List.all_eq_true];intro s hs2;obtain ⟨k,hk,rfl⟩:=List.getElem_of_mem hs2;have:=hys k hr (by omega);rw [qbp _ k hk] at this
    exact qb8.2 this
  have hS:=qdc l0 x hl (by omega)
  rw [qf1 hok hsx hm ha] at hS
  have hA:=(OG hsx hm ha).1
  have hB:=(OG (l1:=abt i) (by rw [KA];exact hs) hm (qaR hs hm)).1
  refine Ev.step (f:=fun k=>(Qo.f k l0 x).bind fun Wn=>(if Wn.2=0 then (if (Wn.1.length:Int)=(l0.length:Int) then (Q9.j5 k l0 (shO l0 (abt i)) m Wn.1 (((shO l0 (abt i)).length:Int) != (l0.length:Int))) else (Q9.j5 k l0 (shO l0 (abt i)) m Wn.1 true)) else (Q9.j5 k l0 (shO l0 (abt i)) m Wn.1 true))) (fun k => ?_) ?_
  ·
   simp only [Q9.l1]
   rw [if_neg (by rw [KA];omega)]
  refine Ev.bind hS ?_
  refine Ev.congr (f:=fun k=>Q9.j5 k l0 (shO l0 (abt i)) m (shO l0 x) false) (fun k => ?_) ?_
  ·
   simp [hA,hB]
  refine Ev.step (f:=fun k=>Q9.l3 k l0 (shO l0 (abt i)) m (shO l0 x) ((0:Nat):Int)) (fun k => ?_) (qgT l0 b hl0 hl hb i hs m hm x hln ha l0.length 0 (by omega))
  simp [Q9.j5]
 | succ d ih =>
  intro i x hi hx
  have hlt:i<n:=by omega
  refine Ev.step (f:=fun k=>Q9.l2 k l0 b (abt n) (shO l0 (abt n)) m x (i:Int) 0 ((0:Nat):Int)) (fun k => ?_) (qfK l0 b hl0 hl hb n hs m hm x i hlt hx (fun s hs2=>ih (i+1) _ (by omega) hs2) l0.length 0 0 (by omega) (Int.le_refl _) (Int.le_refl _))
  simp only [Q9.l1]
  rw [if_pos (by rw [KA];omega)]
  rfl
theorem qfJ (n:Nat) (hn:n≤9223372036854775807):Ev (fun k=>Q9.j1 k l0 b (abt n)) true:=by
 have hS:=qdc l0 (abt n) hl (by rw [KA];exact hn)
 refine Ev.step (f:=fun k=>(Qo.f k l0 (abt n)).bind fun Wm=>(if Wm.2=0 then ((Qg.f k l0 (abt n)).bind fun qlO=>(Q9.j2 k l0 b (abt n) Wm.1 Wm.2 (!qlO))) else (Q9.j2 k l0 b (abt n) Wm.1 Wm.2 true))) (fun k=>by simp only [Q9.j1]) ?_
 refine Ev.bind hS ?_
 cases hok:shOk l0 (abt n) with
 | false =>
  refine Ev.step (f:=fun _=>some true) (fun k => ?_) (Ev.now _)
  simp [shT,hok,Q9.j2,Zt.f]
 | true =>
  have hs:=(qiM hok).1
  have hs':Sg l0 n:=by rw [KA] at hs;exact hs
  obtain ⟨m,hm,hE⟩:=qlr l0.length hs.r1 hs.r3 b hb
  rw [qf1 hok hs hm (qaR hs' hm)]
  refine Ev.congr (f:=fun k=>(Qg.f k l0 (abt n)).bind fun qlO=>(Q9.j2 k l0 b (abt n) (shO l0 (abt n)) 0 (!qlO))) (fun k=>by simp) ?_
  refine Ev.bind (qjI hs) ?_
  refine Ev.step (f:=fun k=>(Yj.f k (l0.length:Int) b).bind fun J8=>(Q9.l1 k l0 b (abt n) (shO l0 (abt n)) J8 ([]:List (S25)) ((0:Nat):Int))) (fun k => ?_) (Ev.bind hE (qfL l0 b hl0 hl hb n hs' m hm n 0 [] (by omega) ⟨rfl,fun k hk=>absurd hk (by omega)⟩))
  simp [Q9.j2]
end
theorem StockMixed (l0:List (List S25)) (b:List Int) (hl:l0.length*24≤140737488351232) (hp:l0.length*24≤140737488351232 ∧ ∀ x∈l0,x.length*16≤140737488351232 ∧ ∀ y∈x,W25 y) (hb:b.length*8≤140737488351232) (hbp:∀ x∈b,Wf x):∃ k,Q9.f k l0 b=some true:=by
 have hl':∀ x∈l0,x.length≤9223372036854775807:=fun x hx=>by have:=(hp.2 x hx).1;omega
 refine Ev.rounds (Ev.congr (f:=fun k=>Q9.l0 k l0 b (abt 0) ((0:Nat):Int)) (fun k=>rfl) ?_)
 by_cases h0:l0.length=0
 ·
  refine Ev.step (f:=fun k=>Q9.j1 k l0 b (abt 0)) (fun k => ?_) (qfJ l0 b (by omega) hl' hb 0 (by decide))
  simp only [Q9.l0]
  rw [if_neg (by omega)]
 ·
  have hin:Yh l0 0∈l0:=by
   have:=qqn l0 0 (by omega)
   rw [show ((0:Nat):Int)=0 from rfl] at this
   rw [this]
   exact List.getElem_mem _
  have hlen:=(hp.2 _ hin).1
  have loop:∀ (d i:Nat),i+d=(Yh l0 0).length→Ev (fun k=>Q9.l0 k l0 b (abt i) (i:Int)) true:=by
   intro d
   induction d with
   | zero =>
    intro i hi;refine Ev.step (f:=fun k=>Q9.j1 k l0 b (abt i)) (fun k => ?_) (qfJ l0 b (by omega) hl' hb i (by omega));simp only [Q9.l0]
    rw [if_pos (by omega),if_pos (by omega),if_neg (by omega)]
   | succ d ih =>
    intro i hi;have hw:=wr1 i (Yh l0 0).length (by omega) (by omega);refine Ev.step (f:=fun k=>Q9.l0 k l0 b (abt (i+1)) ((i+1:Nat):Int)) (fun k => ?_) (ih (i+1) (by omega));simp only [Q9.l0,Qt.f,Option.bind_some,hw];rw [if_pos (by omega),if_pos (by omega),if_pos (by omega),if_pos (by rw [KA];omega)];rw [abt,abt,List.replicate_succ']
  exact loop (Yh l0 0).length 0 (by omega)
end
section
theorem qbh {H:Type} {P:Program} {e:TypeId} {d:DataW H} {n:Nat}:∀ {L:List (DataW H)},d∈L→n∈d.weights P e→n∈DataW.weightsAll P e L
 | [],h,_=>by simp at h
 | y::L,h,hn=>by
  rw [DataW.weightsAll,List.mem_append]
  rcases List.mem_cons.1 h with rfl|h
  ·
   exact .inl hn
  ·
   exact .inr (qbh h hn)
def XC {α:Type} (d:Kd α) (t:TypeId) (p:α→Prop):Prop:=∀ (H:Type) (enc:TypeId × Value→H) (w:World) (fuel:Nat) (cs:List Value) (x:DataW H × List MemPlace),
 DataW.trod enc Try.prog w 0 (fun _=>true) true fuel t cs=some x→(∀ n∈x.1.weights Try.prog t,n≤reachBytes) → ∃ a,d.K w a cs∧p a
theorem Wi.z {α:Type} {d:Kd α} {t:TypeId} {p:α→Prop} (h:Wi d t p):XC d t p:=fun H enc w fuel cs x hf _=>h H enc w fuel cs x hf
theorem qaF {α:Type} {d:Kd α} {e e' t:TypeId} {p:α→Prop} (B:Nat) (h:XC d e p) (ht:Try.prog.underlying t=some (.slice e)) (hc:Try.prog.cellsOf e=d.sz) (hB:Try.prog.bytesOf e=B):XC (Kd.slice e' d) t (fun xs=>xs.length*B≤140737488351232 ∧ ∀ x∈xs,p x):=fun H enc w fuel cs x hf hw=>by
 rcases Deep.open_slice ht hf with ⟨rfl,_⟩|⟨a,len,cap,m,n,D,Pl,rfl,_,hl,hm,hmm,hxx,hx⟩
 ·
  exact ⟨[],⟨none,0,rfl,Nat.le_refl _,Kd.C_nil d w⟩,by simp,fun x hx=>by simp at hx⟩
 ·
  subst hxx
  have hws:=hw
  simp only [DataW.weights,ht] at hws
  have hwl:(len+(m-len))*B≤reachBytes:=by
   have:=hws _ (List.mem_cons_self ..)
   rw [hB] at this
   simpa using this
  have hlb:len*B≤140737488351232:=by
   have hrb:reachBytes=140737488351232:=by decide
   rw [hrb] at hwl
   exact Nat.le_trans (Nat.mul_le_mul_right _ (by omega)) hwl
  have each:∀ i,i<len → ∃ z:α,(∃ c,c.length=d.sz∧d.K w z c ∧ ∀ j u,c[j]? = some u→w.cell? (a.add (i*d.sz+j))=some u)∧p z:=fun i hi=>by
   obtain ⟨cs',h1,h2⟩:=hx i (by simp only [if_true] at hmm;omega)
   obtain ⟨z,hz,hp⟩:=h H enc w n cs' _ h2 (fun q hq=>hws q (List.mem_cons_of_mem _ (List.mem_append.2 (.inl (qbh (List.mem_map.2 ⟨i,List.mem_range.2 hi,rfl⟩) hq)))))
   obtain ⟨_,hcl,hat⟩:=World.cells?_some h1
   refine ⟨z,⟨cs',d.K_len hz,hz,fun j u hu => ?_⟩,hp⟩
   have hj:j<cs'.length:=(List.getElem?_eq_some_iff.1 hu).1
   rw [d.K_len hz] at hj
   have hj':j<Try.prog.cellsOf e:=by rw [hc];exact hj
   have h3:=hat j hj'
   rw [Deep.add_add,hc] at h3
   rw [h3]
   exact hu
  by_cases h0:len=0
  ·
   subst h0
   exact ⟨[],⟨some a,cap,rfl,by simp,⟨rfl,by simp,fun hh=>by simp at hh⟩⟩,by simp,fun x hx=>by simp at hx⟩
  ·
   obtain ⟨z0,_⟩:=each 0 (by omega)
   have inst:Inhabited α:=⟨z0⟩
   obtain ⟨f,hfz⟩:=Deep.choose_lt each
   have hmx:cap≤9223372036854775807:=by unfold maxLen at hm;omega
   refine ⟨(List.range len).map f,⟨some a,cap,by simp,by simpa using hl,⟨rfl,by simp;omega,fun _=>⟨a,rfl,fun j q hj => ?_⟩⟩⟩,by simpa using hlb,fun x hx => ?_⟩
   ·
    have hj2:j<len:=by have:=(List.getElem?_eq_some_iff.1 hj).1;simpa using this
    rw [List.getElem?_map,List.getElem?_range hj2] at hj
    injection hj with hj
    subst hj;obtain ⟨c,c1,c2,c3⟩:=(hfz j hj2).1
    exact ⟨c,c1,c2,c3⟩
   ·
    obtain ⟨i,hi,rfl⟩:=List.mem_map.1 hx
    exact (hfz i (List.mem_range.1 hi)).2
theorem qeg:XC (Kd.slice 32 (Kd.slice 25 k25)) 31 (fun l=>l.length*24≤140737488351232 ∧ ∀ x∈l,x.length*16≤140737488351232 ∧ ∀ y∈x,W25 y) :=
 qaF 24 (qaF 16 qlF.z Try.underlying32 c25 (by kernel_rfl)) Try.underlying31 c32 (by kernel_rfl)
section
variable {H:Type} {enc:TypeId × Value→H} {W:World} {d:DataW H} {ps:List MemPlace}
theorem qgx {α:Type} {k:Kd α} {t e':TypeId} {p:List α→Prop} (hr:XC (Kd.slice e' k) t p) {a:Option Addr} {len cap:Nat} {ts:List TypeId} {ds:List (DataW H)} {j:Nat}
  (hsz:(DataW.weightsEach Try.prog ts ds).all (· ≤ reachBytes)=true) (ht:ts[j]? = some t) (hd:ds[j]? = some d) (h:DataW.Trod enc Try.prog W 0 (fun _=>true) true t (.slice a len cap) d ps) :
  ∃ l:List α,len=l.length∧Kd.C k W a l.length l∧l.length≤cap∧p l:=by
 obtain ⟨fuel,hf⟩:=h
 obtain ⟨l,⟨A,c,e1,hc,hC⟩,hp⟩:=hr H enc W fuel _ _ hf (fun n hn=>by
  have:=List.all_eq_true.1 hsz n (DataW.weights_mem_each ht hd n hn)
  simpa using this)
 replace e1:[Value.slice a len cap]=[Value.slice A l.length c]:=e1
 injection e1 with e1
 injection e1 with e1 e2 e3
 subst e1 e2 e3
 exact ⟨l,rfl,hC,hc,hp⟩
end
end
end Go.Proofs.Ytmhomdohhihlcaa.P
