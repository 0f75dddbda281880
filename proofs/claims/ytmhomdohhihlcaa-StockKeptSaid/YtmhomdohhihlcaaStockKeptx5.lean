/- What the statement StockKept leans on, part 6 of 6: contracts of the program's functions; conditions: none. -/
import Derived.Test.YtmhomdohhihlcaaStockKeptx0
import Derived.Test.YtmhomdohhihlcaaStockKeptx1
import Derived.Test.YtmhomdohhihlcaaStockKeptx2
import Derived.Test.YtmhomdohhihlcaaStockKeptx3
import Derived.Test.YtmhomdohhihlcaaStockKeptx4
set_option linter.unusedVariables false
set_option linter.unusedSimpArgs false
set_option linter.constructorNameAsVariable false
set_option linter.unusedSectionVars false
namespace Go.Proofs.Ytmhomdohhihlcaa.P
open Go.RowKit Go.Proofs.YtmhomdohhihlcaaW.PrintWords Go.Proofs.YtmhomdohhihlcaaW.PrintLast Go.Proofs.YtmhomdohhihlcaaW.PrintMore
section
def upT (a:Int):Int:=wrap64 (Int.tdiv (wrap64 (wrap64 a+99)) 100)
theorem qyg (a:Int) (h0:0≤a) (h1:a≤10000000):Gn.f (wrap64 a) 100=some (upT a):=by
 have e0:wrap64 a=a:=by unfold wrap64;omega
 have e1:wrap64 (-a) = -a:=by unfold wrap64;omega
 have e2:wrap64 (a+99)=a+99:=by unfold wrap64;omega
 have t1:Int.tmod (-a) 100 = -(a % 100):=by rw [Int.neg_tmod,Int.tmod_eq_emod_of_nonneg h0]
 have m1:Y6.f (-a) 100=some (if a % 100=0 then 0 else 100-a % 100):=by
  unfold Y6.f
  rw [if_neg (by decide),t1]
  by_cases hz:a % 100=0
  ·
   rw [if_neg (by omega),if_pos hz,hz];rfl
  ·
   rw [if_pos (by omega),if_neg hz]
   congr 1
   unfold wrap64
   omega
 unfold Gn.f G4.f upT
 rw [e0,e1,m1,e2]
 simp only [Option.bind_some]
 rw [if_neg (by decide)]
 simp only [Option.bind_some]
 congr 1
 rw [Int.tdiv_eq_ediv_of_nonneg (by omega:0≤a+99)]
 by_cases hz:a % 100=0
 ·
  rw [if_pos hz]
  have e3:wrap64 (-a-0) = -a:=by unfold wrap64;omega
  rw [e3,Int.neg_tdiv,Int.tdiv_eq_ediv_of_nonneg h0]
  unfold wrap64
  omega
 ·
  rw [if_neg hz]
  have e3:wrap64 (-a-(100-a % 100)) = -(a+(100-a % 100)):=by unfold wrap64;omega
  rw [e3,Int.neg_tdiv,Int.tdiv_eq_ediv_of_nonneg (by omega)]
  unfold wrap64
  omega
def brL (m:Nat) (mesh:Int) (keep spawn:List Int) (line tk:Int) (rc:List Int):Nat→Nat→List Int→Int
 | 0,_,_ => -1
 | d+1,i,n=>if (Jr m mesh keep spawn n tk (rd rc i)).1<line then (i:Int) else brL m mesh keep spawn line tk rc d (i+1) (Jr m mesh keep spawn n tk (rd rc i)).2
theorem qmx (m:Nat) (mesh:Int) (keep spawn:List Int) (line tk:Int) (rc:List Int) (n:List Int) (x:Int) (h1:(Jr m mesh keep spawn n tk x).2=n) (h2:¬ (Jr m mesh keep spawn n tk x).1<line):∀ (d i:Nat),(∀ j:Nat,i≤j→j<i+d→rd rc j=x)→brL m mesh keep spawn line tk rc d i n = -1:=by
 intro d
 induction d with
 | zero=>intro i h;rfl
 | succ d ih =>
  intro i h
  rw [brL,h i (by omega) (by omega),if_neg h2,h1]
  exact ih (i+1) (fun j g1 g2=>h j (by omega) (by omega))
theorem quG {a b:List Int} (ha:a.length=6) (hb:b.length=6) (h:(rd a 0==rd b 0&&(rd a 1==rd b 1&&(rd a 2==rd b 2&&(rd a 3==rd b 3&&(rd a 4==rd b 4&&(rd a 5==rd b 5))))))=true):a=b:=by
 simp only [Bool.and_eq_true,beq_iff_eq] at h
 obtain ⟨h0,h1,h2,h3,h4,h5⟩:=h
 rw [← six ha,← six hb,h0,h1,h2,h3,h4,h5]
theorem qiE (l0 l1 l2:List Int) (a3 a4:Int) (ho:okR l0 l1 l2 a4) (tk:Int) (rc:List Int) (h10:rc.length≤10):∀ (d i:Nat) (n:List Int),n.length=6→i+d=rc.length→Ev (fun k=>Qv.l0 k tk rc rc (rc.length:Int) (i:Int) l0 l1 l2 a3 a4 (rd n 0) (rd n 1) (rd n 2) (rd n 3) (rd n 4) (rd n 5)) (brL l0.length a4 l1 l2 a3 tk rc d i n):=by
 intro d
 induction d with
 | zero =>
  intro i n hn hi
  refine Ev.step (f:=fun _=>some (-1)) (fun k => ?_) (Ev.now _)
  simp only [Qv.l0]
  rw [if_neg (by omega)]
 | succ d ih =>
  intro i n hn hi
  have h6:=qay l0.length a4 l1 l2 n tk (rd rc i)
  have hw:=wr1 i rc.length (by omega) (by omega)
  rw [brL]
  by_cases c1:(Jr l0.length a4 l1 l2 n tk (rd rc i)).1<a3
  ·
   rw [if_pos c1]
   refine Ev.step (f:=fun _=>some (i:Int)) (fun k => ?_) (Ev.now _)
   simp only [Qv.l0,hw,YV.f,six hn]
   rw [if_pos (by omega),if_pos (by omega),if_pos (by omega),if_pos ho,Option.bind_some,if_pos c1]
  ·
   rw [if_neg c1]
   by_cases c2:(rd (Jr l0.length a4 l1 l2 n tk (rd rc i)).2 0==rd n 0&&(rd (Jr l0.length a4 l1 l2 n tk (rd rc i)).2 1==rd n 1&&(rd (Jr l0.length a4 l1 l2 n tk (rd rc i)).2 2==rd n 2&&(rd (Jr l0.length a4 l1 l2 n tk (rd rc i)).2 3==rd n 3&&(rd (Jr l0.length a4 l1 l2 n tk (rd rc i)).2 4==rd n 4&&(rd (Jr l0.length a4 l1 l2 n tk (rd rc i)).2 5==rd n 5))))))=true
   ·
    have he:=quG h6 hn c2
    cases c3:(rc.drop i).any (fun z=>z != rd rc i) with
    | true =>
     refine Ev.step (fun k => ?_) (ih (i+1) _ h6 (by omega));simp only [Qv.l0,hw,YV.f,six hn];rw [if_pos (by omega),if_pos (by omega),if_pos (by omega),if_pos ho,Option.bind_some,if_neg c1,if_pos c2,if_pos (by omega)]
     simp only [Zz.f,Option.bind_some,Int.toNat_natCast,c3,if_true]
    | false =>
     have hq:∀ j:Nat,i+1≤j→j<i+1+d→rd rc j=rd rc i:=fun j g1 g2=>by
      have hj:j<rc.length:=by omega
      rw [rdI rc j hj]
      have hm:rc[j]∈rc.drop i:=by
       rw [List.mem_drop_iff_getElem]
       exact ⟨j-i,by omega,by congr 1;omega⟩
      have:=List.any_eq_false.1 c3 _ hm
      simpa using this
     have hb:=qmx l0.length a4 l1 l2 a3 tk rc n (rd rc i) he c1 d (i+1) hq;rw [he,hb];refine Ev.step (f:=fun _=>some (-1)) (fun k => ?_) (Ev.now _);simp only [Qv.l0,hw,YV.f,six hn];rw [if_pos (by omega),if_pos (by omega),if_pos (by omega),if_pos ho,Option.bind_some,if_neg c1,if_pos c2,if_pos (by omega)];simp only [Zz.f,Option.bind_some,Int.toNat_natCast,c3]
     rfl
   ·
    refine Ev.step (fun k => ?_) (ih (i+1) _ h6 (by omega));simp only [Qv.l0,hw,YV.f,six hn];rw [if_pos (by omega),if_pos (by omega),if_pos (by omega),if_pos ho,Option.bind_some,if_neg c1,if_neg c2]
def stt (s:S39) (tk:Int) (rc:List Int):Nat→List Int
 | 0=>[rd s.f0 0,rd s.f0 1,rd s.f0 2,rd s.f0 3,rd s.f0 4,rd s.f0 5]
 | i+1=>(Jr s.f0.length s.f4 s.f1 s.f2 (stt s tk rc i) tk (rd rc i)).2
def spw (s:S39) (tk:Int) (rc:List Int) (i:Nat):Int:=(Jr s.f0.length s.f4 s.f1 s.f2 (stt s tk rc i) tk (rd rc i)).1
def brS (s:S39) (tk:Int) (rc:List Int):Int:=brL s.f0.length s.f4 s.f1 s.f2 s.f3 tk rc rc.length 0 (stt s tk rc 0)
theorem qpW (s:S39) (tk:Int) (rc:List Int):∀ (d i:Nat),(brL s.f0.length s.f4 s.f1 s.f2 s.f3 tk rc d i (stt s tk rc i) = -1 ∧ ∀ j,i≤j→j<i+d → ¬ spw s tk rc j<s.f3) ∨
  (∃ j:Nat,i≤j∧j<i+d∧brL s.f0.length s.f4 s.f1 s.f2 s.f3 tk rc d i (stt s tk rc i)=(j:Int)∧spw s tk rc j<s.f3 ∧ ∀ h,i≤h→h<j → ¬ spw s tk rc h<s.f3):=by
 intro d
 induction d with
 | zero=>intro i;exact .inl ⟨rfl,fun j h1 h2=>by omega⟩
 | succ d ih =>
  intro i
  rw [brL]
  by_cases c:(Jr s.f0.length s.f4 s.f1 s.f2 (stt s tk rc i) tk (rd rc i)).1<s.f3
  ·
   rw [if_pos c]
   exact .inr ⟨i,by omega,by omega,rfl,c,fun h h1 h2=>by omega⟩
  ·
   rw [if_neg c]
   rcases ih (i+1) with ⟨h1,h2⟩|⟨j,h1,h2,h3,h4,h5⟩
   ·
    refine .inl ⟨h1,fun j g1 g2 => ?_⟩
    by_cases hj:j=i
    ·
     rw [hj];exact c
    ·
     exact h2 j (by omega) (by omega)
   ·
    refine .inr ⟨j,by omega,by omega,h3,h4,fun h g1 g2 => ?_⟩
    by_cases hj:h=i
    ·
     rw [hj];exact c
    ·
     exact h5 h (by omega) g2
theorem qjy (i d t r a:Nat) (h1:i+(d+1)=t) (h2:t≤r) (h3:t≤10) (h4:a=i):wrap64 ((i:Int)+1)=((i+1:Nat):Int)∧(i:Int)<(t:Int)∧(0:Int)≤(i:Int)∧a<17592186044416∧(i:Int)<(r:Int) :=
 ⟨wr1 i t (by omega) (by omega),by omega,Int.natCast_nonneg i,by omega,by omega⟩
abbrev Fres:=Int × Int × Int × Bool
def resF (y:Nat) (o:Option (Nat × Nat)) (R:Fres):Fres:=match o with
 | some p=>((p.1:Int),(p.2:Int),(y:Int),true)
 | none=>R
def frsG (F:Nat→Nat × Nat→Bool) (L:List (Nat × Nat)):Nat→Nat→Fres
 | 0,_=>(0,0,0,false)
 | d+1,y=>resF y (L.find? (F y)) (frsG F L d (y+1))
def upd (B:Nat × Nat→Int) (b:Int × Int × Int) (p:Nat × Nat):Int × Int × Int :=
 if B p≥0 then (if b.2.2<0 then ((p.1:Int),(p.2:Int),B p) else (if B p<b.2.2 then ((p.1:Int),(p.2:Int),B p) else b)) else b
def finF (b:Int × Int × Int):Int × Int × Int × Int:=if b.2.2<0 then (0,0,0,4) else (b.1,b.2.1,b.2.2,0)
def refF (R:Fres):Int × Int × Int × Int:=if R.2.2.2=true then (R.1,R.2.1,R.2.2.1,0) else (0,0,0,4)
def qnO (B:Nat × Nat→Int) (F:Nat→Nat × Nat→Bool) (Y:Nat) (L:List (Nat × Nat)):Prop :=
 ∀ p∈L,(B p = -1 ∧ ∀ j,j<Y→F j p=false)∨(∃ j:Nat,j<Y∧B p=(j:Int)∧F j p=true ∧ ∀ h,h<j→F h p=false)
def InvB (B:Nat × Nat→Int) (done:List (Nat × Nat)) (b:Int × Int × Int):Prop :=
 (b.2.2<0 ∧ ∀ p∈done,B p<0) ∨
 (∃ pre p post,done=pre++p::post∧b=((p.1:Int),(p.2:Int),B p)∧0≤B p∧(∀ z∈pre,B z<0∨B p<B z) ∧ ∀ z∈post,B z<0∨B p≤B z)
theorem qoL (B:Nat × Nat→Int) (done:List (Nat × Nat)) (b:Int × Int × Int) (p:Nat × Nat) (h:InvB B done b):InvB B (done++[p]) (upd B b p):=by
 unfold upd
 rcases h with ⟨h1,h2⟩|⟨pre,z,post,h1,h2,h3,h4,h5⟩
 ·
  by_cases c:B p≥0
  ·
   rw [if_pos c,if_pos h1]
   exact .inr ⟨done,p,[],rfl,rfl,c,fun z hz => .inl (h2 z hz),fun z hz=>by simp at hz⟩
  ·
   rw [if_neg c]
   refine .inl ⟨h1,fun z hz => ?_⟩
   rw [List.mem_append] at hz
   rcases hz with hz|hz
   ·
    exact h2 z hz
   ·
    simp at hz;rw [hz];omega
 ·
  have hb:b.2.2=B z:=by rw [h2]
  have keepIt:(B p<0∨B z≤B p)→InvB B (done++[p]) b:=fun g=>by
   refine .inr ⟨pre,z,post++[p],by rw [h1];simp,h2,h3,h4,fun x hx => ?_⟩
   rw [List.mem_append] at hx
   rcases hx with hx|hx
   ·
    exact h5 x hx
   ·
    simp at hx;rw [hx];exact g
  by_cases c:B p≥0
  ·
   rw [if_pos c,hb,if_neg (by omega)]
   by_cases c2:B p<B z
   ·
    rw [if_pos c2];refine .inr ⟨done,p,[],rfl,rfl,c,fun x hx => ?_,fun x hx=>by simp at hx⟩;rw [h1,List.mem_append,List.mem_cons] at hx
    rcases hx with hx|hx|hx
    ·
     rcases h4 x hx with g|g
     ·
      exact .inl g
     ·
      exact .inr (by omega)
    ·
     rw [hx];exact .inr c2
    ·
     rcases h5 x hx with g|g
     ·
      exact .inl g
     ·
      exact .inr (by omega)
   ·
    rw [if_neg c2]
    exact keepIt (.inr (by omega))
  ·
   rw [if_neg c]
   exact keepIt (.inl (by omega))
theorem qew (B:Nat × Nat→Int):∀ (L done:List (Nat × Nat)) (b:Int × Int × Int),InvB B done b→InvB B (done++L) (L.foldl (upd B) b)
 | [],done,b,h=>by simpa using h
 | p::L,done,b,h=>by
  have:=qew B L (done++[p]) _ (qoL B done b p h)
  simpa using this
theorem qor {B:Nat × Nat→Int} {F:Nat→Nat × Nat→Bool} {Y:Nat} {L:List (Nat × Nat)} (hK:qnO B F Y L):finF (L.foldl (upd B) (0,0,-1))=refF (frsG F L Y 0)∧(frsG F L Y 0).2.2.2=L.any (fun p=>decide (0≤B p)):=by
 have hI:=qew B L [] (0,0,-1) (.inl ⟨by decide,fun p hp=>by simp at hp⟩)
 rw [List.nil_append] at hI
 rcases hI with ⟨h1,h2⟩|⟨pre,z,post,h1,h2,h3,h4,h5⟩
 ·
  have hn:∀ (d y:Nat),y+d=Y→frsG F L d y=(0,0,0,false):=by
   intro d
   induction d with
   | zero=>intro y hy;rfl
   | succ d ih =>
    intro y hy
    have hf:L.find? (F y)=none:=by
     rw [List.find?_eq_none];intro p hp
     rcases hK p hp with ⟨g1,g2⟩|⟨j,g1,g2,_⟩
     ·
      rw [g2 y (by omega)];decide
     ·
      have:=h2 p hp;omega
    rw [frsG,hf]
    exact ih (y+1) (by omega)
  rw [hn Y 0 (by omega)]
  constructor
  ·
   unfold finF
   rw [if_pos h1]
   rfl
  ·
   symm
   rw [List.any_eq_false]
   intro p hp
   have:=h2 p hp
   simp
   omega
 ·
  have hzL:z∈L:=by rw [h1];simp
  rcases hK z hzL with ⟨g1,_⟩|⟨yy,g1,g2,g3,g4⟩
  ·
   omega
  ·
   have later:∀ p∈L,∀ y,y<yy→F y p=false:=by
    intro p hp y hy
    rcases hK p hp with ⟨k1,k2⟩|⟨j,k1,k2,k3,k4⟩
    ·
     exact k2 y (by omega)
    ·
     refine k4 y ?_;rw [h1,List.mem_append,List.mem_cons] at hp
     rcases hp with hp|hp|hp
     ·
      rcases h4 p hp with g|g<;>omega
     ·
      rw [hp] at k2;omega
     ·
      rcases h5 p hp with g|g<;>omega
   have hn:∀ (d y:Nat),y+d=Y→y≤yy→frsG F L d y=((z.1:Int),(z.2:Int),(yy:Int),true):=by
    intro d
    induction d with
    | zero=>intro y hy hyy;omega
    | succ d ih =>
     intro y hy hyy
     by_cases he:y=yy
     ·
      subst he
      have hf:L.find? (F y)=some z:=by
       rw [h1,List.find?_append,List.find?_eq_none.2 ?_,List.find?_cons,g3]
       ·
        rfl
       ·
        intro p hp
        rcases hK p (by rw [h1];simp [hp]) with ⟨k1,k2⟩|⟨j,k1,k2,k3,k4⟩
        ·
         rw [k2 y (by omega)];decide
        ·
         rw [k4 y (by rcases h4 p hp with g|g<;>omega)];decide
      rw [frsG,hf]
      rfl
     ·
      have hf:L.find? (F y)=none:=by
       rw [List.find?_eq_none];intro p hp;rw [later p hp y (by omega)]
       decide
      rw [frsG,hf]
      exact ih (y+1) (by omega) (by omega)
   rw [hn Y 0 (by omega) (by omega),h2]
   constructor
   ·
    unfold finF refF;rw [if_neg (by simp only;omega)];simp only [if_true,g2]
   ·
    symm
    rw [List.any_eq_true]
    exact ⟨z,hzL,decide_eq_true h3⟩
section
variable (races:List S39) (keep:List Int) (q:List (List (List Int)))
def tkR (a:Int) (r:Nat):Int:=upT (a*rd keep r)
def XR (p:Nat × Nat):List Int:=QM (Qq q p.2) p.1
def brP (a:Int) (p:Nat × Nat):Int:=brS (Qc races p.1) (tkR keep a p.1) (XR q p)
def Fy (a:Int) (y:Nat) (p:Nat × Nat):Bool:=decide (spw (Qc races p.1) (tkR keep a p.1) (XR q p) y<(Qc races p.1).f3)
def rowL (r:Nat):Nat→Nat→List (Nat × Nat)
 | 0,_=>[]
 | d+1,s=>(r,s)::rowL r d (s+1)
def allL (S:Nat):Nat→Nat→List (Nat × Nat)
 | 0,_=>[]
 | d+1,r=>rowL r S 0++allL S d (r+1)
variable {races keep q} (hf:Fish races keep q)
include hf
theorem qfi (a:Int) (r s:Nat) (hr:r<races.length) (hs:s<q.length):Ev (fun k=>Qv.f k races keep q (r:Int) (s:Int) a) (brP races keep q a (r,s)):=by
 have hS:=(hf.ra r hr).1
 have ho:=(qjJ hS).1
 have h1:=(hf.se s hs).1
 have h2:=(hf.se s hs).2 r hr
 have hk:=hf.hk
 have hy:=hf.y10
 have h:=qiE (Qc races r).f0 (Qc races r).f1 (Qc races r).f2 (Qc races r).f3 (Qc races r).f4 ho (tkR keep a r) (XR q (r,s)) (by unfold XR;simp only;omega) (XR q (r,s)).length 0 (stt (Qc races r) (tkR keep a r) (XR q (r,s)) 0) rfl (by omega)
 refine Ev.congr (fun k => ?_) h
 simp only [Qv.f]
 rw [if_pos (by omega),if_pos (by omega),if_pos (by omega),qhS _ _ _ _ _ ho.2.1,Option.bind_some,if_pos (by omega),if_pos (by omega),if_pos (by omega)]
 rfl
theorem qdi (a:Int) (r s:Nat) (hr:r<races.length) (hs:s<q.length):(brP races keep q a (r,s) = -1 ∧ ∀ j,j<yrs q→Fy races keep q a j (r,s)=false) ∨
  (∃ j:Nat,j<yrs q∧brP races keep q a (r,s)=(j:Int)∧Fy races keep q a j (r,s)=true ∧ ∀ h,h<j→Fy races keep q a h (r,s)=false):=by
 have h2:(XR q (r,s)).length=yrs q:=(hf.se s hs).2 r hr
 rcases qpW (Qc races r) (tkR keep a r) (XR q (r,s)) (XR q (r,s)).length 0 with ⟨h3,h4⟩|⟨j,h3,h4,h5,h6,h7⟩
 ·
  exact .inl ⟨h3,fun j hj=>decide_eq_false (h4 j (by omega) (by omega))⟩
 ·
  exact .inr ⟨j,by omega,h5,decide_eq_true h6,fun h hh=>decide_eq_false (h7 h (by omega) hh)⟩
theorem qmF (a:Int) (r:Nat) (hr:r<races.length) (b:Bool) (hb:Ev (fun k=>QJ.l0 k a (races.length:Int) ((r+1:Nat):Int) races keep q) b):∀ (d s:Nat),s+d=q.length→Ev (fun k=>QJ.l1 k a (r:Int) (races.length:Int) (r:Int) (q.length:Int) (s:Int) races keep q) (!(rowL r d s).any (fun p=>decide (0≤brP races keep q a p))&&b):=by
 have h3:=hf.n3
 have h6:=hf.s6
 intro d
 induction d with
 | zero =>
  intro s hs
  have hw:=wr1 r races.length hr (by omega)
  refine Ev.step (fun k => ?_) (by simpa [rowL] using hb)
  simp only [QJ.l1,hw]
  rw [if_neg (by omega)]
  rfl
 | succ d ih =>
  intro s hs
  have hw:=wr1 s q.length (by omega) (by omega)
  refine Ev.step (f:=fun k=>(Qv.f k races keep q (r:Int) (s:Int) a).bind fun t227=>(if t227≥0 then (some false) else (QJ.l1 k a (r:Int) (races.length:Int) (r:Int) (q.length:Int) ((s+1:Nat):Int) races keep q))) (fun k => ?_) (Ev.bind (qfi hf a r s hr (by omega)) ?_)
  ·
   simp only [QJ.l1,hw]
   rw [if_pos (by omega)]
  ·
   rw [rowL,List.any_cons]
   by_cases c:0≤brP races keep q a (r,s)
   ·
    rw [decide_eq_true c];simp only [ge_iff_le,if_pos c]
    simpa using Ev.now false
   ·
    rw [decide_eq_false c];simp only [ge_iff_le,if_neg c,Bool.false_or]
    exact ih (s+1) (by omega)
theorem qmE (a:Int):∀ (d r:Nat),r+d=races.length→Ev (fun k=>QJ.l0 k a (races.length:Int) (r:Int) races keep q) (!(allL q.length d r).any (fun p=>decide (0≤brP races keep q a p))):=by
 intro d
 induction d with
 | zero =>
  intro r hr
  refine Ev.step (f:=fun _=>some true) (fun k => ?_) (Ev.now _)
  simp only [QJ.l0]
  rw [if_neg (by omega)]
 | succ d ih =>
  intro r hr
  have h:=qmF hf a r (by omega) _ (ih (r+1) (by omega)) q.length 0 (by omega)
  rw [allL,List.any_append,Bool.not_or]
  refine Ev.step (fun k => ?_) h
  simp only [QJ.l0]
  rw [if_pos (by omega)]
  rfl
theorem qhR (a:Int):Ev (fun k=>QJ.f k races keep q a) (!(allL q.length races.length 0).any (fun p=>decide (0≤brP races keep q a p))):=qmE hf a races.length 0 (by omega)
theorem qmC (a:Int) (r:Nat) (hr:r<races.length) (R:Int × Int × Int × Int):∀ (d s:Nat) (b:Int × Int × Int),s+d=q.length→Ev (fun k=>QO.l0 k a ((rowL r d s).foldl (upd (brP races keep q a)) b).1 ((rowL r d s).foldl (upd (brP races keep q a)) b).2.1 ((rowL r d s).foldl (upd (brP races keep q a)) b).2.2 (races.length:Int) ((r+1:Nat):Int) races keep q) R →
  Ev (fun k=>QO.l1 k a b.1 b.2.1 b.2.2 (r:Int) (races.length:Int) (r:Int) (q.length:Int) (s:Int) races keep q) R:=by
 have h3:=hf.n3
 have h6:=hf.s6
 intro d
 induction d with
 | zero =>
  intro s b hs h
  have hw:=wr1 r races.length hr (by omega)
  refine Ev.step (fun k => ?_) h
  simp only [QO.l1,hw]
  rw [if_neg (by omega)]
  rfl
 | succ d ih =>
  intro s b hs h
  have hw:=wr1 s q.length (by omega) (by omega)
  have h':=ih (s+1) (upd (brP races keep q a) b (r,s)) (by omega) h
  refine Ev.step (f:=fun k=>(Qv.f k races keep q (r:Int) (s:Int) a).bind fun t236=>(if t236≥0 then (if b.2.2<0 then (QO.l1 k a (r:Int) (s:Int) t236 (r:Int) (races.length:Int) (r:Int) (q.length:Int) ((s+1:Nat):Int) races keep q) else (if t236<b.2.2 then (QO.l1 k a (r:Int) (s:Int) t236 (r:Int) (races.length:Int) (r:Int) (q.length:Int) ((s+1:Nat):Int) races keep q) else (QO.l1 k a b.1 b.2.1 b.2.2 (r:Int) (races.length:Int) (r:Int) (q.length:Int) ((s+1:Nat):Int) races keep q))) else (QO.l1 k a b.1 b.2.1 b.2.2 (r:Int) (races.length:Int) (r:Int) (q.length:Int) ((s+1:Nat):Int) races keep q))) (fun k => ?_) (Ev.bind (qfi hf a r s hr (by omega)) ?_)
  ·
   simp only [QO.l1,hw]
   rw [if_pos (by omega)]
  ·
   unfold upd at h'
   by_cases c1:brP races keep q a (r,s)≥0
   ·
    by_cases c2:b.2.2<0
    ·
     simp only [if_pos c1,if_pos c2] at h' ⊢
     exact h'
    ·
     by_cases c3:brP races keep q a (r,s)<b.2.2
     ·
      simp only [if_pos c1,if_neg c2,if_pos c3] at h' ⊢
      exact h'
     ·
      simp only [if_pos c1,if_neg c2,if_neg c3] at h' ⊢
      exact h'
   ·
    simp only [if_neg c1] at h' ⊢
    exact h'
theorem qmB (a:Int):∀ (d r:Nat) (b:Int × Int × Int),r+d=races.length→Ev (fun k=>QO.l0 k a b.1 b.2.1 b.2.2 (races.length:Int) (r:Int) races keep q) (finF ((allL q.length d r).foldl (upd (brP races keep q a)) b)):=by
 intro d
 induction d with
 | zero =>
  intro r b hr
  refine Ev.step (f:=fun _=>some (finF b)) (fun k => ?_) (Ev.now _)
  simp only [QO.l0]
  rw [if_neg (by omega)]
  unfold finF
  split<;>rfl
 | succ d ih =>
  intro r b hr
  have h:=qmC hf a r (by omega) _ q.length 0 b (by omega) (ih (r+1) ((rowL r q.length 0).foldl (upd (brP races keep q a)) b) (by omega))
  rw [allL,List.foldl_append]
  refine Ev.step (fun k => ?_) h
  simp only [QO.l0]
  rw [if_pos (by omega)]
  rfl
theorem qhI (S:Nat):∀ (d r:Nat) (p:Nat × Nat),p∈allL S d r→p.1<r+d∧p.2<S:=by
 have hrow:∀ (r d s:Nat) (p:Nat × Nat),p∈rowL r d s→p.1=r∧p.2<s+d:=by
  intro r d
  induction d with
  | zero=>intro s p h;simp [rowL] at h
  | succ d ih =>
   intro s p h
   rw [rowL,List.mem_cons] at h
   rcases h with rfl|h
   ·
    exact ⟨rfl,by simp only;omega⟩
   ·
    have:=ih (s+1) p h;omega
 intro d
 induction d with
 | zero=>intro r p h;simp [allL] at h
 | succ d ih =>
  intro r p h
  rw [allL,List.mem_append] at h
  rcases h with h|h
  ·
   have:=hrow r S 0 p h;omega
  ·
   have:=ih (r+1) p h;omega
theorem qyc (a:Int):qnO (brP races keep q a) (Fy races keep q a) (yrs q) (allL q.length races.length 0):=fun p hp=>by
 have h:=qhI hf q.length races.length 0 p hp
 exact qdi hf a p.1 p.2 (by omega) h.2
end
end
section
theorem qjN (a b:Int) (hb:0<b) (hb2:b≤4611686018427387904):Y6.f a b=some (a % b):=by
 unfold Y6.f
 rw [if_neg (by omega)]
 have h1:=Int.tmod_lt_of_pos a hb
 have h2:Int.tmod a b=a % b∨Int.tmod a b=a % b-b:=by
  rw [Int.tmod_eq_emod]
  split
  ·
   left;simp
  ·
   right
   have:(b.natAbs:Int)=b:=by omega
   rw [this]
 have h3:=Int.emod_nonneg a (by omega:b≠0)
 have h4:=Int.emod_lt_of_pos a hb
 rcases h2 with h2|h2
 ·
  rw [if_neg (by omega),h2]
 ·
  rw [if_pos (by omega),h2]
  congr 1
  unfold wrap64
  omega
theorem qoP {races:List S39} {keep:List Int} {q:List (List (List Int))} (h:okA races keep q=true) (s r:Nat) (hs:s<q.length) (hr:r<races.length):vals (QM (Qq q s) r)=true:=by
 have hf:=qbo h
 unfold okA at h
 simp only [Bool.and_eq_true,decide_eq_true_eq] at h
 have h6:=List.all_eq_true.1 h.2 q[s] (List.getElem_mem hs)
 have hl:=(hf.se s hs).1
 rw [qm2 q s hs] at hl ⊢
 unfold qaO at h6
 rw [Bool.and_eq_true] at h6
 have h7:=List.all_eq_true.1 h6.2 q[s][r] (List.getElem_mem (by omega))
 rw [qrQ q[s] r (by omega)]
 unfold qaN at h7
 rw [Bool.and_eq_true] at h7
 exact h7.2
theorem quS {a:Int} (h0:0≤a) (h1:a≤10000000):0≤upT a∧upT a≤100000000:=by
 have e0:wrap64 a=a:=by unfold wrap64;omega
 have e2:wrap64 (a+99)=a+99:=by unfold wrap64;omega
 unfold upT
 rw [e0,e2,Int.tdiv_eq_ediv_of_nonneg (by omega:0≤a+99)]
 unfold wrap64
 omega
def lexP (p z:Nat × Nat):Prop:=p.1<z.1∨(p.1=z.1∧p.2<z.2)
theorem qgS (r:Nat):∀ (d s:Nat) (p:Nat × Nat),p∈rowL r d s→p.1=r∧s≤p.2:=by
 intro d
 induction d with
 | zero=>intro s p h;simp [rowL] at h
 | succ d ih =>
  intro s p h
  rw [rowL,List.mem_cons] at h
  rcases h with rfl|h
  ·
   exact ⟨rfl,Nat.le_refl _⟩
  ·
   have:=ih (s+1) p h;omega
theorem qpU (S:Nat):∀ (d r:Nat) (p:Nat × Nat),p∈allL S d r→r≤p.1:=by
 intro d
 induction d with
 | zero=>intro r p h;simp [allL] at h
 | succ d ih =>
  intro r p h
  rw [allL,List.mem_append] at h
  rcases h with h|h
  ·
   have:=qgS r S 0 p h;omega
  ·
   have:=ih (r+1) p h;omega
theorem qrR (r:Nat):∀ (d s:Nat),(rowL r d s).Pairwise lexP:=by
 intro d
 induction d with
 | zero=>intro s;exact List.Pairwise.nil
 | succ d ih =>
  intro s
  rw [rowL,List.pairwise_cons]
  refine ⟨fun p hp => ?_,ih (s+1)⟩
  have:=qgS r d (s+1) p hp
  exact .inr ⟨this.1.symm,by simp only;omega⟩
theorem qpV (S:Nat):∀ (d r:Nat),(allL S d r).Pairwise lexP:=by
 intro d
 induction d with
 | zero=>intro r;exact List.Pairwise.nil
 | succ d ih =>
  intro r
  rw [allL,List.pairwise_append]
  refine ⟨qrR r S 0,ih (r+1),fun p hp z hz => .inl ?_⟩
  have h1:=qgS r S 0 p hp
  have h2:=qpU S d (r+1) z hz
  omega
theorem qo8 (r:Nat):∀ (d s x:Nat),s≤x→x<s+d→(r,x)∈rowL r d s:=by
 intro d
 induction d with
 | zero=>intro s x h1 h2;omega
 | succ d ih =>
  intro s x h1 h2
  rw [rowL,List.mem_cons]
  by_cases h:x=s
  ·
   exact .inl (by rw [h])
  ·
   exact .inr (ih (s+1) x (by omega) (by omega))
theorem qhH (S:Nat):∀ (d r y x:Nat),r≤y→y<r+d→x<S→(y,x)∈allL S d r:=by
 intro d
 induction d with
 | zero=>intro r y x h1 h2 h3;omega
 | succ d ih =>
  intro r y x h1 h2 h3
  rw [allL,List.mem_append]
  by_cases h:y=r
  ·
   exact .inl (by rw [h];exact qo8 r S 0 x (by omega) (by omega))
  ·
   exact .inr (ih (r+1) y x (by omega) (by omega) h3)
theorem qjx {races:List S39} {keep:List Int} {q:List (List (List Int))} (hf:Fish races keep q) (a:Int) :
  (finF ((allL q.length races.length 0).foldl (upd (brP races keep q a)) (0,0,-1))=(0,0,0,4) ∧ ∀ r s:Nat,r<races.length→s<q.length → ∀ j,j<yrs q→Fy races keep q a j (r,s)=false) ∨
  (∃ r s y:Nat,r<races.length∧s<q.length∧y<yrs q∧finF ((allL q.length races.length 0).foldl (upd (brP races keep q a)) (0,0,-1))=((r:Int),(s:Int),(y:Int),0)∧Fy races keep q a y (r,s)=true ∧
   ∀ r' s':Nat,r'<races.length→s'<q.length → ∀ j,j≤y→(j<y∨lexP (r',s') (r,s))→Fy races keep q a j (r',s')=false):=by
 have hI:=qew (brP races keep q a) (allL q.length races.length 0) [] (0,0,-1) (.inl ⟨by decide,fun p hp=>by simp at hp⟩)
 rw [List.nil_append] at hI
 have hPW:=qpV q.length races.length 0
 rcases hI with ⟨h1,h2⟩|⟨pre,z,post,h1,h2,h3,h4,h5⟩
 ·
  refine .inl ⟨by unfold finF;rw [if_pos h1],fun r s hr hs j hj => ?_⟩
  rcases qdi hf a r s hr hs with ⟨_,g⟩|⟨y,_,g,_⟩
  ·
   exact g j hj
  ·
   have:=h2 (r,s) (qhH _ _ _ _ _ (by omega) (by omega) hs)
   omega
 ·
  have hz:z∈allL q.length races.length 0:=by rw [h1];simp
  have hzb:=qhI hf q.length races.length 0 z hz
  obtain ⟨r,s⟩:=z
  simp only at hzb
  rcases qdi hf a r s (by omega) hzb.2 with ⟨g,_⟩|⟨y,y1,y2,y3,y4⟩
  ·
   omega
  ·
   refine .inr ⟨r,s,y,by omega,hzb.2,y1,?_,y3,fun r' s' hr' hs' j hj hlex => ?_⟩
   ·
    rw [h2,y2];unfold finF;rw [if_neg (by simp only;omega)]
   ·
    have hm:(r',s')∈allL q.length races.length 0:=qhH _ _ _ _ _ (by omega) (by omega) hs'
    rcases qdi hf a r' s' hr' hs' with ⟨_,g⟩|⟨x,x1,x2,x3,x4⟩
    ·
     exact g j (by omega)
    ·
     refine x4 j ?_;rw [h1] at hm hPW;rw [List.mem_append,List.mem_cons] at hm
     rcases hm with hm|hm|hm
     ·
      rcases h4 _ hm with g|g<;>omega
     ·
      have e:(r',s')=(r,s):=hm
      injection e with e1 e2
      subst e1 e2
      rcases hlex with g|g|g
      ·
       omega
      ·
       simp only at g;omega
      ·
       simp only at g;omega
     ·
      rw [List.pairwise_append,List.pairwise_cons] at hPW;have hl:lexP (r,s) (r',s'):=hPW.2.1.1 _ hm
      rcases h5 _ hm with g|g
      ·
       omega
      ·
       rcases hlex with g'|g'
       ·
        omega
       ·
        unfold lexP at hl g';simp only at hl g'
        omega
end
section
def sttL (s:S39) (tks rc:List Int):Nat→List Int
 | 0=>[rd s.f0 0,rd s.f0 1,rd s.f0 2,rd s.f0 3,rd s.f0 4,rd s.f0 5]
 | i+1=>(Jr s.f0.length s.f4 s.f1 s.f2 (sttL s tks rc i) (rd tks i) (rd rc i)).2
def spwL (s:S39) (tks rc:List Int) (i:Nat):Int:=(Jr s.f0.length s.f4 s.f1 s.f2 (sttL s tks rc i) (rd tks i) (rd rc i)).1
theorem qiF (s:S39) (tks rc:List Int):∀ i,(sttL s tks rc i).length=6
 | 0=>rfl
 | i+1=>qay _ _ _ _ _ _ _
theorem qme (s:S39) (tk:Int) (rc:List Int):∀ i,(stt s tk rc i).length=6
 | 0=>rfl
 | i+1=>qay _ _ _ _ _ _ _
theorem qoZ (s:S39) (tks rc:List Int):∀ (d i:Nat) (acc:List Int),plL s.f0.length s.f4 s.f1 s.f2 tks rc d i (sttL s tks rc i) acc=acc++(List.range' i d).map (spwL s tks rc):=by
 intro d
 induction d with
 | zero=>intro i acc;simp [plL]
 | succ d ih =>
  intro i acc
  rw [plL]
  have:=ih (i+1) (acc++[spwL s tks rc i])
  rw [show (Jr s.f0.length s.f4 s.f1 s.f2 (sttL s tks rc i) (rd tks i) (rd rc i)).2=sttL s tks rc (i+1) from rfl,show (Jr s.f0.length s.f4 s.f1 s.f2 (sttL s tks rc i) (rd tks i) (rd rc i)).1=spwL s tks rc i from rfl,this,List.range'_succ]
  simp
theorem qjK {s:S39} (hs:isS s=true):1≤s.f0.length∧s.f0.length≤6 ∧ ∀ i:Nat,i<s.f0.length→(0≤rd s.f0 i∧rd s.f0 i≤100000)∧(0≤rd s.f1 i∧rd s.f1 i≤1000)∧0≤rd s.f2 i∧rd s.f2 i≤1000:=by
 obtain ⟨⟨o1,o2,_⟩,_,hv⟩:=qjJ hs
 refine ⟨o1,o2,fun i hi => ?_⟩
 have h:=hv i hi
 unfold vR at h
 simp only [Bool.and_eq_true] at h
 have a:=Gh.1 h.1.1
 have b:=Gh.1 h.1.2
 have c:=Gh.1 h.2
 exact ⟨a,b,c.1,by omega⟩
theorem qm8 {s:S39} (hs:isS s=true):Les 100000 [rd s.f0 0,rd s.f0 1,rd s.f0 2,rd s.f0 3,rd s.f0 4,rd s.f0 5] [rd s.f0 0,rd s.f0 1,rd s.f0 2,rd s.f0 3,rd s.f0 4,rd s.f0 5]:=by
 obtain ⟨_,o2,hv⟩:=qjK hs
 have h:∀ i:Nat,0≤rd s.f0 i∧rd s.f0 i≤100000:=fun i=>by
  by_cases hi:i<s.f0.length
  ·
   exact (hv i hi).1
  ·
   rw [qgQ _ i (by omega)];decide
 intro i
 have e:rd [rd s.f0 0,rd s.f0 1,rd s.f0 2,rd s.f0 3,rd s.f0 4,rd s.f0 5] (i:Int)=if i<6 then rd s.f0 (i:Int) else 0:=by
  rcases (by omega:i=0∨i=1∨i=2∨i=3∨i=4∨i=5∨6≤i) with h|h|h|h|h|h|h
  any_goals (subst h;rfl)
  rw [qgQ _ i (by simpa using h),if_neg (by omega)]
 rw [e]
 split
 ·
  exact ⟨(h i).1,Int.le_refl _,(h i).2⟩
 ·
  decide
theorem traj {s:S39} (hs:isS s=true) (tk:Int) (h1:tk≤10000000000000) (tks rc:List Int) (hr:∀ i:Nat,0≤rd rc i∧rd rc i≤100000):∀ y:Nat,y≤10→(∀ i:Nat,i<y→0≤rd tks i∧rd tks i≤tk)→Les (Mb y) (stt s tk rc y) (sttL s tks rc y)
 | 0,_,_=>qm8 hs
 | y+1,hy,ht=>by
  obtain ⟨o1,o2,hv⟩:=qjK hs
  obtain ⟨t0,t1⟩:=ht y (Nat.lt_succ_self y)
  exact (qfo s.f0.length o1 o2 s.f4 s.f1 s.f2 _ _ (Mb y) tk (rd tks y) (rd rc y) (qme s tk rc y) (qiF s tks rc y) (qcD y) (qhD y (by omega)) (traj hs tk h1 tks rc hr y (by omega) (fun i hi=>ht i (by omega))) (fun i hi=>(hv i hi).2.1) (fun i hi=>(hv i hi).2.2) t0 t1 h1 (hr y).1 (hr y).2).2
theorem quH {s:S39} (hs:isS s=true) (tk:Int) (h1:tk≤10000000000000) (tks rc:List Int) (hr:∀ i:Nat,0≤rd rc i∧rd rc i≤100000) (y:Nat) (hy:y≤9) (ht:∀ i:Nat,i≤y→0≤rd tks i∧rd tks i≤tk):spw s tk rc y≤spwL s tks rc y:=by
 obtain ⟨o1,o2,hv⟩:=qjK hs
 obtain ⟨t0,t1⟩:=ht y (Nat.le_refl y)
 exact (qfo s.f0.length o1 o2 s.f4 s.f1 s.f2 _ _ (Mb y) tk (rd tks y) (rd rc y) (qme s tk rc y) (qiF s tks rc y) (qcD y) (qhD y hy) (traj hs tk h1 tks rc hr y (by omega) (fun i hi=>ht i (by omega))) (fun i hi=>(hv i hi).2.1) (fun i hi=>(hv i hi).2.2) t0 t1 h1 (hr y).1 (hr y).2).1
section
variable {races:List S39} {keep:List Int} {q:List (List (List Int))} (hA:okA races keep q=true)
include hA
theorem qep (a:Int) (ha0:0≤a) (ha1:a≤10001) (r s:Nat) (hr:r<races.length) (hs:s<q.length) (less:List Int) (hl:less.length≤4611686018427387904):∃ L:List Int,Ev (fun k=>QF.f k races keep q (r:Int) (s:Int) a less) (L,0)∧L.length=yrs q ∧
  ∀ y:Nat,y<yrs q→spw (Qc races r) (tkR keep a r) (XR q (r,s)) y≤rd L y:=by
 have hf:=qbo hA
 have hk:=hf.hk
 have e1:=(hf.se s hs).1
 have e2:(QM (Qq q s) r).length=yrs q:=(hf.se s hs).2 r hr
 have hS:=(hf.ra r hr).1
 have hy1:=hf.y1
 have qrr:=hf.y10
 have g:=Gh.1 (hf.ra r hr).2
 have b0:0≤a*rd keep r:=Int.mul_nonneg ha0 g.1
 have b1:a*rd keep r≤10001*100:=Int.mul_le_mul ha1 g.2 g.1 (by decide)
 have hup:=quS b0 (by omega)
 have hvals:=qoP hA s r hs hr
 have hrow:∀ i:Nat,0≤rd (QM (Qq q s) r) i∧rd (QM (Qq q s) r) i≤100000:=fun i=>by
  by_cases hi:i<(QM (Qq q s) r).length
  ·
   rw [rdI _ i hi]
   exact Gh.1 (List.all_eq_true.1 hvals _ (List.getElem_mem hi))
  ·
   rw [qgQ _ i (by omega)];decide
 have g1:(0:Int)≤(s:Int):=Int.natCast_nonneg s
 have g2:(s:Int)<(q.length:Int):=Int.ofNat_lt.2 hs
 have g3:(0:Int)≤(r:Int):=Int.natCast_nonneg r
 have g4:(r:Int)<((Qq q s).length:Int):=by rw [e1];exact Int.ofNat_lt.2 hr
 have g5:(r:Int)<(keep.length:Int):=by rw [hk];exact Int.ofNat_lt.2 hr
 have g6:(r:Int)<(races.length:Int):=Int.ofNat_lt.2 hr
 have e2':((QM (Qq q s) r).length:Int)=(yrs q:Int):=by rw [e2]
 have hUp:=qyg _ b0 (Int.le_trans b1 (by decide))
 have hpick:∀ i:Nat,∃ z:Int,Ji.f less (i:Int)=some z:=fun i=>by
  unfold Ji.f
  by_cases h0:(less.length:Int)=0
  ·
   exact ⟨0,by rw [if_pos h0]⟩
  ·
   have h3:=Int.emod_nonneg (i:Int) h0
   have h4:=Int.emod_lt_of_pos (i:Int) (by omega:(0:Int)<(less.length:Int))
   refine ⟨rd less ((i:Int) % (less.length:Int)),?_⟩
   rw [if_neg h0,qjN (i:Int) (less.length:Int) (by omega) (by omega),Option.bind_some,if_pos h3,if_pos h4]
 have hT:∀ i:Nat,∃ x:Int,0≤x∧x≤tkR keep a r ∧ ∀ {β:Type} (K:Int→Option β),((Ji.f less (i:Int)).bind fun qe9=>(Y6.f qe9 20).bind fun qcL=>K (mx 0 (wrap64 (upT (a*rd keep r)-qcL))))=K x:=fun i=>by
  obtain ⟨z,hz⟩:=hpick i
  have h3:=Int.emod_nonneg z (by decide:(20:Int)≠0)
  have h4:=Int.emod_lt_of_pos z (by decide:(0:Int)<20)
  refine ⟨mx 0 (wrap64 (upT (a*rd keep r)-z % 20)),?_,?_,fun K => ?_⟩
  ·
   unfold mx;split<;>omega
  ·
   have e:tkR keep a r=upT (a*rd keep r):=rfl
   rw [e]
   obtain ⟨u,hu⟩:∃ u,upT (a*rd keep r)=u:=⟨_,rfl⟩
   rw [hu] at hup ⊢
   have e3:wrap64 (u-z % 20)=u-z % 20:=by unfold wrap64;omega
   rw [e3]
   unfold mx;split<;>omega
  ·
   rw [hz,Option.bind_some,qjN z 20 (by decide) (by decide),Option.bind_some]
 obtain ⟨T,hT⟩:=Classical.axiomOfChoice hT
 have hTl:∀ i:Nat,i<yrs q→rd ((List.range (yrs q)).map T) i=T i:=fun i hi=>by
  rw [rdI _ i (by simpa using hi)];simp
 have hP:=qe1 (Qc races r) ((List.range (yrs q)).map T) (QM (Qq q s) r)
 have hok:plOk (Qc races r) ((List.range (yrs q)).map T) (QM (Qq q s) r)=true:=by
  unfold plOk
  have v1:isR (Qc races r).f0 (Qc races r).f1 (Qc races r).f2 (Qc races r).f3 (Qc races r).f4=true:=hS
  have v0:((List.range (yrs q)).map T).length=yrs q:=by simp
  have v2:wi (((List.range (yrs q)).map T).length:Int) 1 10=true:=by rw [v0];exact Gh.2 ⟨by omega,by omega⟩
  have v3:(((QM (Qq q s) r).length:Int)==(((List.range (yrs q)).map T).length:Int))=true:=by rw [v0,e2];simp
  have v4:((List.range (yrs q)).map T).all (fun x=>wi x 0 100000000)=true:=by
   rw [List.all_eq_true]
   intro x hx
   obtain ⟨i,_,rfl⟩:=List.mem_map.1 hx
   exact Gh.2 ⟨(hT i).1,Int.le_trans (hT i).2.1 hup.2⟩
  have v5:(QM (Qq q s) r).all (fun x=>wi x 0 100000)=true:=hvals
  rw [v1,v2,v3,v4,v5]
  rfl
 rw [hok] at hP
 have hV:qcZ (Qc races r).f0 (Qc races r).f1 (Qc races r).f2 (Qc races r).f4 ((List.range (yrs q)).map T) (QM (Qq q s) r) true=((List.range' 0 (yrs q)).map (spwL (Qc races r) ((List.range (yrs q)).map T) (QM (Qq q s) r)),0):=by
  unfold qcZ plV
  rw [if_pos rfl]
  have:=qoZ (Qc races r) ((List.range (yrs q)).map T) (QM (Qq q s) r) (yrs q) 0 []
  rw [List.nil_append] at this
  rw [← this]
  simp only [List.length_map,List.length_range]
  rfl
 rw [hV] at hP
 refine ⟨(List.range' 0 (yrs q)).map (spwL (Qc races r) ((List.range (yrs q)).map T) (QM (Qq q s) r)),?_,by simp,fun y hy => ?_⟩
 ·
  have loop:∀ (d i:Nat),i+d=yrs q→Ev (fun k=>QF.l0 k (r:Int) (s:Int) a less ((List.range i).map T) (i:Int) races keep q) ((List.range' 0 (yrs q)).map (spwL (Qc races r) ((List.range (yrs q)).map T) (QM (Qq q s) r)),0):=by
   obtain ⟨Y,hY⟩:∃ Y,yrs q=Y:=⟨_,rfl⟩
   rw [hY] at e2' qrr hP ⊢
   intro d
   induction d with
   | zero =>
    intro i hi;obtain rfl:i=Y:=hi;refine Ev.step (f:=fun k=>(Qw.f k ((Qc races r).f0) ((Qc races r).f1) ((Qc races r).f2) ((Qc races r).f3) ((Qc races r).f4) ((List.range i).map T) (QM (Qq q s) r)).bind fun qhN=>(some (qhN.1,qhN.2))) (fun k => ?_) (Ev.bind hP (Ev.now _));simp only [QF.l0]
    rw [if_pos g1,if_pos g2,if_pos g3,if_pos g4,e2',if_neg (Int.lt_irrefl _),if_pos g6]
   | succ d ih =>
    intro i hi;obtain ⟨hw,g7,_,g8,_⟩:=qjy i d Y Y ((List.range i).map T).length hi (Nat.le_refl _) qrr (by simp);refine Ev.step (fun k => ?_) (ih (i+1) (by rw [← hi,Nat.add_assoc,Nat.add_comm 1 d]));simp only [QF.l0,hw];rw [if_pos g1,if_pos g2,if_pos g3,if_pos g4,e2',if_pos g7,if_pos g5,hUp,Option.bind_some];have hTi:=(hT i).2.2 (fun x=>if ((List.range i).map T).length<17592186044416 then (QF.l0 k (r:Int) (s:Int) a less ((List.range i).map T++[x]) ((i+1:Nat):Int) races keep q) else none);refine Eq.trans hTi ?_;rw [if_pos g8,List.range_succ,List.map_append]
    rfl
  exact loop (yrs q) 0 (Nat.zero_add _)
 ·
  rw [rdI _ y (by simpa using hy)]
  have h:=quH hS (tkR keep a r) (Int.le_trans hup.2 (by decide)) ((List.range (yrs q)).map T) (QM (Qq q s) r) hrow y (by omega) (fun i hi=>by
   rw [hTl i (by omega)]
   exact ⟨(hT i).1,(hT i).2.1⟩)
  simpa [XR] using h
end
end
section
theorem qhG (l0 l1 l2:List Int) (a3 a4:Int):∀ k,(∀ n b,Qo.j0 k n b l0 l1 l2 a3 a4=Qh.j0 k n b l0 l1 l2 a3 a4)∧(∀ n b i,Qo.l0 k n b i l0 l1 l2 a3 a4=Qh.l0 k n b i l0 l1 l2 a3 a4)∧(∀ n b i c,Qo.j2 k n b i c l0 l1 l2 a3 a4=Qh.j2 k n b i c l0 l1 l2 a3 a4)
 | 0=>⟨fun _ _=>rfl,fun _ _ _=>rfl,fun _ _ _ _=>rfl⟩
 | k+1=>by
  obtain ⟨h1,h2,h3⟩:=qhG l0 l1 l2 a3 a4 k
  refine ⟨fun n b => ?_,fun n b i => ?_,fun n b i c => ?_⟩
  ·
   simp only [Qo.j0,Qh.j0,h2]
  ·
   simp only [Qo.l0,Qh.l0,h3]
  ·
   simp only [Qo.j2,Qh.j2,h2,qab,Gf]
theorem qn1 {l0 l1 l2:List Int} {a3 a4:Int} (h:isR l0 l1 l2 a3 a4=true):Ev (fun k=>Qo.f k l0 l1 l2 a3 a4) true:=by
 unfold isR at h
 simp only [Bool.and_eq_true,decide_eq_true_eq] at h
 obtain ⟨⟨⟨⟨⟨h1,h2⟩,h3⟩,h4⟩,h5⟩,h6⟩:=h
 have g1:=Gh.1 h1
 have hw:wrap64 ((l0.length:Int)-1)=(l0.length:Int)-1:=by unfold wrap64;omega
 have H:=qcv l0 l1 l2 a3 a4 l0.length 0 true (by omega) (fun _=>⟨h2,h3,by omega⟩)
 rw [h6] at H
 refine Ev.congr (fun k => ?_) (Ev.step (g:=fun k=>Qh.j0 k (l0.length:Int) true l0 l1 l2 a3 a4) (fun k=>by simp [Qh.j0]) H)
 simp only [Qo.f,qab,Option.bind_some,h1,h2,h3,hw,h5,(qhG l0 l1 l2 a3 a4 k).1,if_true]
section
variable {races:List S39} {keep:List Int} {q:List (List (List Int))} (hf:Fish races keep q)
include hf
theorem qmL (s:Nat) (hs:s<q.length) (h:Ev (fun k=>Qd.l1 k true ((s+1:Nat):Int) races keep q) true):∀ (d j:Nat),j+d=races.length→Ev (fun k=>Qd.l2 k true (s:Int) (j:Int) races keep q) true:=by
 have h3:=hf.n3
 have h6:=hf.s6
 have e1:=(hf.se s hs).1
 have g1:(0:Int)≤(s:Int):=Int.natCast_nonneg s
 have g2:(s:Int)<(q.length:Int):=Int.ofNat_lt.2 hs
 have hws:=wr1 s q.length hs (by omega)
 intro d
 induction d with
 | zero =>
  intro j hj
  refine Ev.step (fun k => ?_) h
  simp only [Qd.l2,hws]
  rw [if_pos trivial,if_neg (by omega)]
 | succ d ih =>
  intro j hj
  have hjn:j<races.length:=by omega
  have hwj:=wr1 j races.length hjn (by omega)
  have e2:((QM (Qq q s) j).length:Int)=(yrs q:Int):=by rw [(hf.se s hs).2 j hjn]
  have g3:(j:Int)<(races.length:Int):=Int.ofNat_lt.2 hjn
  have g4:(0:Int)≤(j:Int):=Int.natCast_nonneg j
  have g5:(j:Int)<((Qq q s).length:Int):=by rw [e1];exact g3
  have hwi:wi (yrs q:Int) 1 10=true:=Gh.2 ⟨by have:=hf.y1;omega,by have:=hf.y10;omega⟩
  have g6:0<(q.length:Int):=by omega
  have g7:0<((Qq q 0).length:Int):=by
   have:=(hf.se 0 (by omega)).1
   rw [show Qq q 0=Qq q ((0:Nat):Int) from rfl,this]
   omega
  refine Ev.step (fun k => ?_) (ih (j+1) (by omega))
  simp only [Qd.l2,hwj,e2,qab,Option.bind_some,hwi]
  rw [if_pos trivial,if_pos g3,if_pos g1,if_pos g2,if_pos g4,if_pos g5,if_pos trivial,if_pos g6,if_pos g7]
  have e8:((yrs q:Int)==((QM (Qq q 0) 0).length:Int))=true:=by
   rw [show (QM (Qq q 0) 0).length=yrs q from rfl]
   simp
  rw [e8]
theorem qmK:∀ (d i:Nat),i+d=q.length→Ev (fun k=>Qd.l1 k true (i:Int) races keep q) true:=by
 have h6:=hf.s6
 intro d
 induction d with
 | zero =>
  intro i hi
  refine Ev.step (f:=fun k=>Qd.j4 k true (i:Int) false races keep q) (fun k => ?_) (Ev.step (f:=fun _=>some true) (fun k => ?_) (Ev.now _))
  ·
   simp only [Qd.l1]
   rw [decide_eq_false (by omega:¬ (i:Int)<(q.length:Int))]
   rfl
  ·
   simp [Qd.j4]
 | succ d ih =>
  intro i hi
  have hlt:i<q.length:=by omega
  have e1:=(hf.se i hlt).1
  refine Ev.step (f:=fun k=>Qd.j4 k true (i:Int) true races keep q) (fun k => ?_) (Ev.step (fun k => ?_) (qmL hf i hlt (ih (i+1) (by omega)) races.length 0 (by omega)))
  ·
   simp only [Qd.l1]
   rw [decide_eq_true (by omega:(i:Int)<(q.length:Int))]
   rfl
  ·
   simp only [Qd.j4]
   rw [if_pos trivial,if_pos (by omega),if_pos (by omega),e1]
   simp
theorem qmJ:∀ (d i:Nat),i+d=races.length→Ev (fun k=>Qd.l0 k true (i:Int) races keep q) true:=by
 have h3:=hf.n3
 have hk:=hf.hk
 intro d
 induction d with
 | zero =>
  intro i hi
  refine Ev.step (f:=fun k=>Qd.j2 k true (i:Int) false races keep q) (fun k => ?_) (Ev.step (fun k => ?_) (qmK hf q.length 0 (by omega)))
  ·
   simp only [Qd.l0]
   rw [decide_eq_false (by omega:¬ (i:Int)<(races.length:Int))]
   rfl
  ·
   simp [Qd.j2]
 | succ d ih =>
  intro i hi
  have hlt:i<races.length:=by omega
  have hw:=wr1 i races.length hlt (by omega)
  have hr:=hf.ra i hlt
  refine Ev.step (f:=fun k=>Qd.j2 k true (i:Int) true races keep q) (fun k => ?_) (Ev.step (f:=fun k=>(Qo.f k ((Qc races i).f0) ((Qc races i).f1) ((Qc races i).f2) ((Qc races i).f3) ((Qc races i).f4)).bind fun qiZ=>(if qiZ=true then (Qd.l0 k true ((i+1:Nat):Int) races keep q) else (Qd.l0 k false ((i+1:Nat):Int) races keep q))) (fun k => ?_) (Ev.bind (qn1 hr.1) ?_))
  ·
   simp only [Qd.l0]
   rw [decide_eq_true (by omega:(i:Int)<(races.length:Int))]
   rfl
  ·
   have g1:(0:Int)≤(i:Int):=by omega
   have g2:(i:Int)<(races.length:Int):=by omega
   have g3:(i:Int)<(keep.length:Int):=by omega
   simp only [Qd.j2,qab,Option.bind_some,hw,hr.2,if_pos g1,if_pos g2,if_pos g3,if_true]
  ·
   simp only [if_true]
   exact ih (i+1) (by omega)
end
theorem qmD {races:List S39} {keep:List Int} {q:List (List (List Int))} (hq:LB q) (hA:okA races keep q=true):Ev (fun k=>Qd.f k races keep q) true:=by
 have hf:=qbo hA
 have c1:=Ox races keep q hq
 rw [hA] at c1
 refine Ev.bind c1 ?_
 have h1:wi (races.length:Int) 1 3=true:=Gh.2 ⟨by have:=hf.n1;omega,by have:=hf.n3;omega⟩
 have h2:(keep.length:Int)=(races.length:Int):=by rw [hf.hk]
 have h3:wi (q.length:Int) 1 6=true:=Gh.2 ⟨by have:=hf.s1;omega,by have:=hf.s6;omega⟩
 have e:cres true=0:=rfl
 simp only [e,if_true,qab,Option.bind_some,h1,h2,h3]
 exact Ev.step (fun k=>by simp [Qd.j0]) (qmJ hf races.length 0 (by omega))
theorem XU:Ev (fun _:Nat=>(QV.f).bind fun t=>(some t)) true:=by
 refine ⟨0,fun k _ => ?_⟩
 simp [QV.f]
theorem qms {races:List S39} {keep:List Int} {q:List (List (List Int))} (hq:LB q) (h:okA races keep q=false) (a:Int):Ev (fun k=>QO.f k races keep q a) (0,0,0,93):=by
 have c1:=Ox races keep q hq
 rw [h] at c1
 exact Ev.bind c1 (Ev.now _)
theorem qaS {races:List S39} {keep:List Int} {q:List (List (List Int))} (hq:LB q) (h:okA races keep q=true) (a:Int) (h0:0≤a) (h1:a≤10000):Ev (fun k=>QO.f k races keep q a) (finF ((allL q.length races.length 0).foldl (upd (brP races keep q a)) (0,0,-1))):=by
 have c1:=Ox races keep q hq
 rw [h] at c1
 have hf:=qbo h
 have hw:wi a 0 10000=true:=Gh.2 ⟨h0,h1⟩
 refine Ev.bind c1 ?_
 have e:cres true=0:=rfl
 simp only [e,if_true,Gf,hw,Option.bind_some]
 exact qmB hf a races.length 0 (0,0,-1) (by omega)
theorem qmc (a:Int) (n:Nat) (h0:1≤n) (h1:n≤1000):∃ m:Nat,m<n∧Y6.f a (n:Int)=some (m:Int):=by
 have h3:=Int.emod_nonneg a (by omega:(n:Int)≠0)
 have h4:=Int.emod_lt_of_pos a (by omega:(0:Int)<n)
 refine ⟨(a % n).toNat,by omega,?_⟩
 rw [qjN a n (by omega) (by omega)]
 congr 1
 omega
end
section
def fnd (races:List S39) (keep:List Int) (q:List (List (List Int))) (a:Int):Bool:=(allL q.length races.length 0).any (fun p=>decide (0≤brP races keep q a p))
section
variable {races:List S39} {keep:List Int} {q:List (List (List Int))} (hf:Fish races keep q)
include hf
theorem bisK (d:Nat):∀ lo hi:Int,hi-lo≤d→0≤lo→lo<hi→hi≤10001→fnd races keep q lo=false→(hi=10001∨fnd races keep q hi=true) → ∃ v:Int,Ev (fun k=>Yy.l0 k lo hi races keep q) (v,0)∧0≤v∧v≤10000∧fnd races keep q v=false∧(v=10000∨fnd races keep q (v+1)=true):=by
 induction d with
 | zero=>intro lo hi h1 h2 h3 h4;omega
 | succ d ih =>
  intro lo hi h1 h2 h3 h4 hl hh
  have e1:wrap64 (hi-lo)=hi-lo:=by unfold wrap64;omega
  have e2:wrap64 (lo+hi)=lo+hi:=by unfold wrap64;omega
  have e3:wrap64 (Int.tdiv (wrap64 (lo+hi)) 2)=(lo+hi) / 2:=by
   rw [e2,Int.tdiv_eq_ediv_of_nonneg (by omega)]
   unfold wrap64
   omega
  by_cases c:hi-lo>1
  ·
   have hH:=qhR hf ((lo+hi) / 2)
   have hHf:(allL q.length races.length 0).any (fun p=>decide (0≤brP races keep q ((lo+hi) / 2) p))=fnd races keep q ((lo+hi) / 2):=rfl
   rw [hHf] at hH
   have hstep:∀ v:Int,Ev (fun k=>(QJ.f k races keep q ((lo+hi) / 2)).bind fun qne=>(if qne=true then (Yy.l0 k ((lo+hi) / 2) hi races keep q) else (Yy.l0 k lo ((lo+hi) / 2) races keep q))) (v,0)→Ev (fun k=>Yy.l0 k lo hi races keep q) (v,0):=fun v h=>by
    refine Ev.step (fun k => ?_) h;simp only [Yy.l0,e1,e3];rw [if_pos c]
   cases hx:fnd races keep q ((lo+hi) / 2) with
   | true =>
    rw [hx] at hH;obtain ⟨v,v1,v2⟩:=ih lo ((lo+hi) / 2) (by omega) (by omega) (by omega) (by omega) hl (.inr hx)
    exact ⟨v,hstep v (Ev.bind hH (by simpa using v1)),v2⟩
   | false =>
    rw [hx] at hH;obtain ⟨v,v1,v2⟩:=ih ((lo+hi) / 2) hi (by omega) (by omega) (by omega) (by omega) hx hh
    exact ⟨v,hstep v (Ev.bind hH (by simpa using v1)),v2⟩
  ·
   refine ⟨lo,Ev.step (f:=fun _=>some (lo,0)) (fun k => ?_) (Ev.now _),h2,by omega,hl,?_⟩
   ·
    simp only [Yy.l0,e1];rw [if_neg c]
   ·
    rcases hh with hh|hh
    ·
     left;omega
    ·
     right
     rw [show lo+1=hi by omega]
     exact hh
theorem qdk (a:Int):(fnd races keep q a=false→finF ((allL q.length races.length 0).foldl (upd (brP races keep q a)) (0,0,-1))=(0,0,0,4) ∧ ∀ r s:Nat,r<races.length→s<q.length → ∀ j,j<yrs q→Fy races keep q a j (r,s)=false) ∧
  (fnd races keep q a=true→(finF ((allL q.length races.length 0).foldl (upd (brP races keep q a)) (0,0,-1))).2.2.2=0):=by
 obtain ⟨k1,k2⟩:=qor (qyc hf a)
 have hd:(allL q.length races.length 0).any (fun p=>decide (0≤brP races keep q a p))=fnd races keep q a:=rfl
 rw [hd] at k2
 constructor
 ·
  intro h
  rw [h] at k2
  have hv:finF ((allL q.length races.length 0).foldl (upd (brP races keep q a)) (0,0,-1))=(0,0,0,4):=by
   rw [k1]
   unfold refF
   rw [k2]
   rfl
  refine ⟨hv,?_⟩
  rcases qjx hf a with ⟨_,g⟩|⟨r,s,y,_,_,_,g,_⟩
  ·
   exact g
  ·
   rw [hv] at g
   simp at g
 ·
  intro h
  rw [h] at k2
  rw [k1]
  unfold refF
  rw [k2]
  rfl
end
theorem qru (races:List S39) (keep:List Int) (q:List (List (List Int))) (v:Int) (race:Nat) (hr:race<races.length) (L:List Int) (hL:L.length≤10) (H:∀ i:Nat,i<L.length → ¬ rd L i<(Qc races race).f3)
  (hend:Ev (fun k=>if v=10000 then ((QV.f).bind fun qi4=>(some qi4)) else ((QO.f k races keep q (wrap64 (v+1))).bind fun qn4=>(if qn4.2.2.2=0 then ((QV.f).bind fun qaQ=>(some qaQ)) else (some false)))) true) :
  ∀ (d i:Nat),i+d=L.length→Ev (fun k=>Qg.l0 k v (race:Int) L (i:Int) races keep q) true:=by
 have g3:(0:Int)≤(race:Int):=Int.natCast_nonneg race
 have g4:(race:Int)<(races.length:Int):=Int.ofNat_lt.2 hr
 intro d
 induction d with
 | zero =>
  intro i hi
  refine Ev.step (fun k => ?_) hend
  simp only [Qg.l0]
  rw [if_neg (by omega)]
 | succ d ih =>
  intro i hi
  have hw:=wr1 i L.length (by omega) (by omega)
  refine Ev.step (fun k => ?_) (ih (i+1) (by omega))
  simp only [Qg.l0,hw]
  rw [if_pos (by omega),if_pos (by omega),if_pos g3,if_pos g4,if_neg (H i (by omega))]
theorem StockKept (races:List S39) (keep:List Int) (q:List (List (List Int))) (n0 n1:Int) (bits:List Int) (h1:∀ x∈races,W39 x) (h2:WL keep) (h3:∀ x∈q,∀ y∈x,WL y) (hkl:keep.length≤9223372036854775807) (hq:LB q) (hn0:Wf n0) (hn1:Wf n1) (hb:bits.length*8≤140737488351232) (hbw:WL bits) :
  ∃ k,Qg.f k races keep q n0 n1 bits=some true:=by
 refine Ev.rounds ?_
 have c1:=Ox races keep q hq
 cases hA:okA races keep q with
 | false =>
  rw [hA] at c1
  have hQ:Ev (fun k=>Yy.f k races keep q) (0,93):=Ev.bind c1 (Ev.now _)
  refine Ev.bind hQ (Ev.bind (qms hq hA 0) ?_)
  refine Ev.step (fun k => ?_) XU
  simp [Qg.j0]
 | true =>
  rw [hA] at c1
  have hf:=qbo hA
  have hF0:=qaS hq hA 0 (by omega) (by omega)
  have hH:=qhR hf 0
  have hd:(allL q.length races.length 0).any (fun p=>decide (0≤brP races keep q 0 p))=fnd races keep q 0:=rfl
  rw [hd] at hH
  have ec:cres true=0:=rfl
  cases hx:fnd races keep q 0 with
  | true =>
   rw [hx] at hH
   have hz:=(qdk hf 0).2 hx
   have hQ:Ev (fun k=>Yy.f k races keep q) (0,4):=Ev.bind c1 (Ev.bind hH (Ev.now _))
   refine Ev.bind hQ (Ev.bind hF0 ?_)
   refine Ev.step (fun k => ?_) XU
   simp [Qg.j0,hz]
  | false =>
   rw [hx] at hH
   obtain ⟨z1,_⟩:=(qdk hf 0).1 hx
   rw [z1] at hF0
   obtain ⟨v,v1,v2,v3,v4,v5⟩:=bisK hf 10001 0 10001 (by omega) (by omega) (by omega) (by omega) hx (.inl rfl)
   have hQ:Ev (fun k=>Yy.f k races keep q) (v,0):=Ev.bind c1 (Ev.bind hH v1)
   have hFv:=qaS hq hA v v2 v3
   obtain ⟨y1,y2⟩:=(qdk hf v).1 v4
   rw [y1] at hFv
   obtain ⟨race,r1,r2⟩:=qmc n0 races.length hf.n1 (by have:=hf.n3;omega)
   obtain ⟨season,s1,s2⟩:=qmc n1 q.length hf.s1 (by have:=hf.s6;omega)
   obtain ⟨L,p1,p2,p3⟩:=qep hA v v2 (by omega) race season r1 s1 bits (by omega)
   refine Ev.bind hQ (Ev.bind hF0 ?_)
   simp only [if_true]
   refine Ev.bind (qmD hq hA) ?_
   have hw:wi v 0 10000=true:=Gh.2 ⟨v2,v3⟩
   refine Ev.step (f:=fun k=>Qg.j1 k bits v false races keep q n0 n1) (fun k => ?_) ?_
   ·
    simp only [Qg.j0,qab,hw,Option.bind_some]
    rfl
   ·
    have k1:(0:Int)≤(season:Int):=Int.natCast_nonneg season;have k2:(season:Int)<(q.length:Int):=Int.ofNat_lt.2 s1;have k3:(0:Int)≤(race:Int):=Int.natCast_nonneg race;have e1:=(hf.se season s1).1;have e2:=(hf.se season s1).2 race r1
    have k4:(race:Int)<((Qq q season).length:Int):=by rw [e1];exact Int.ofNat_lt.2 r1
    have k5:((L.length:Int) != ((QM (Qq q season) race).length:Int))=false:=by rw [p2,e2];simp
    refine Ev.step (f:=fun k=>(QO.f k races keep q v).bind fun qhO=>((QF.f k races keep q (race:Int) (season:Int) v bits).bind fun JP=>(if qhO.2.2.2=4 then (if JP.2=0 then (Qg.j2 k v (race:Int) JP.1 ((JP.1.length:Int) != ((QM (Qq q season) race).length:Int)) races keep q) else (Qg.j2 k v (race:Int) JP.1 true races keep q)) else (Qg.j2 k v (race:Int) JP.1 true races keep q)))) (fun k => ?_) (Ev.bind hFv (Ev.bind p1 ?_))
    ·
     simp only [Qg.j1,r2,s2,Option.bind_some,if_pos k1,if_pos k2,if_pos k3,if_pos k4]
     rfl
    ·
     simp only [if_true,k5];refine Ev.step (f:=fun k=>Qg.l0 k v (race:Int) L ((0:Nat):Int) races keep q) (fun k=>by simp [Qg.j2]) ?_;have qrr:=hf.y10;refine qru races keep q v race r1 L (by rw [p2];exact qrr) (fun i hi => ?_) ?_ L.length 0 (Nat.zero_add _)
     ·
      have hi':i<yrs q:=by rw [← p2];exact hi
      have h:=p3 i hi';have h':=of_decide_eq_false (y2 race season r1 s1 i hi')
      exact fun hlt=>h' (Int.lt_of_le_of_lt h hlt)
     ·
      rcases v5 with g|g
      ·
       simp only [if_pos g]
       exact XU
      ·
       by_cases c:v=10000
       ·
        simp only [if_pos c]
        exact XU
       ·
        have hw1:wrap64 (v+1)=v+1:=by unfold wrap64;omega
        simp only [if_neg c,hw1];refine Ev.bind (qaS hq hA (v+1) (by omega) (by omega)) ?_;have hz:=(qdk hf (v+1)).2 g;simp only [hz,if_true]
        exact XU
end
end Go.Proofs.Ytmhomdohhihlcaa.P
