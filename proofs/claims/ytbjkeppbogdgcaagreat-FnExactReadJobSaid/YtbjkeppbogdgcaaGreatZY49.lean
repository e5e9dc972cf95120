/- What the functions of the program, of the reference and of the law do (a part of it). -/
import Derived.Test.YtbjkeppbogdgcaaGreatZY47
import Derived.Test.YtbjkeppbogdgcaaGreatZY38
import Derived.Test.YtbjkeppbogdgcaaGreatZY4
namespace Go.Vsi
open Go.Proofs
noncomputable section
set_option maxRecDepth 100000
set_option maxHeartbeats 4000000
set_option linter.unusedSimpArgs false
set_option linter.unusedVariables false
attribute [local go_sem ↓] v6
theorem f9c(ok:Bool)(u:List UInt8):(cT ok (cS u).1).Begin=0:=by cases ok<;>rfl
theorem f6y(ok:Bool)(u:List UInt8):bdC (cT ok (cS u).1):=by
 cases ok
 ·exact⟨Nat.zero_le _,Nat.zero_le _,fun t h=>by cases h⟩
 ·exact e1m u
theorem f6z(ok:Bool)(u:List UInt8):bdS (sT ok (sS u).1):=by
 cases ok
 ·exact⟨Nat.zero_le _,Nat.zero_le _,fun t h=>(by cases h),fun t h=>(by cases h),Nat.zero_le _⟩
 ·exact e1n u
theorem d6z(l:List UInt8)(b:Bool):(K5 l b).1.length<=50∧ ∀x∈(K5 l b).1,x.length<=20000:=⟨by
 have:=b0e nS (min (nV l b).1 50) (nV l b).2.1 (nV l b).2.2
 unfold K5;omega,b1f _ _ _⟩
theorem e8a{s l:List UInt8}(b:Bool)(h:l<:+s):(K5 l b).2.1<:+s:=a7u J6 _ s _ _ (J0 b h)
def b5t(c:n8)(t:s8)(x y:D):List S:=[.d (c8 true 1 (rS c.Texts)),.d (c8 true 2 (g9 c.List)),zi,.d (.v (.int .i64 (c.Line))),.d (.v (.int .i64 (c.End))),.d (c8 true 2 (rV t.Vars)),.d (c8 true 3 (rC t.Cells)),.d (.v (.string (B (t.Out)))),.d x,.d y]
def wJ(ok:Bool)(c:n8)(t:s8)(N M:List (List UInt8)):W:=if ok=true then .tup [.agg (b5t c t (c8 true 1 (rS N)) (c8 true 1 (rS M))),.c (.d (.v (.bool (true))))]else W2
theorem sRJ(s u w lu lw ln lm:List UInt8)(bu bw bn bm:Bool)(N M:List (List UInt8))(C:n8)(T:s8)(K1 K2 G:Bool)(X:List UInt8)(n1 n2:Nat)(t3 t5:Int)(b3 b5:Bool)(g1:kR 10 s [] 0 false (ws u) (ps s lu) bu)(g2:kR 10 s [] (ps s lu) bu (ws w) (ps s lw) bw)(r1:c6 Tryz.prog T1 L1 9 [.c (.d (.v (.string (B (u)))))] []=some (.tup [.agg (dC C),.c (.d (.v (.bool (K1))))],[]))(r2:c6 Tryz.prog T1 L1 11 [.c (.d (.v (.string (B (w)))))] []=some (.tup [.agg (dS T),.c (.d (.v (.bool (K2))))],[]))(g3:kR 12 s [] (ps s lw) bw (wi n1) t3 b3)
  (lA: ∀(d1 d2 d3 d4 d5 d6 d7 d8:D)(k1 k2:Bool),(N=[]->G6 s d1 d2 d3 d4 d5 d6 d7 d8 k1 k2 0 n1 t3 b3=O8 s d1 d2 d3 d4 d5 d6 d7 d8 k1 k2 (ps s ln) bn)∧(N≠[]->G6 s d1 d2 d3 d4 d5 d6 d7 d8 k1 k2 0 n1 t3 b3=M9 s d1 d2 d3 d4 d5 d6 d7 d8 k1 k2 N.length (ps s ln) bn (rS N)))
  (g4:kR 12 s [] (ps s ln) bn (wi n2) t5 b5)
  (lB0: ∀(d1 d2 d3 d4 d5 d6 d7 d8:D)(k1 k2:Bool),(M=[]->N0 s d1 d2 d3 d4 d5 d6 d7 d8 k1 k2 0 n2 t5 b5=a0t s d1 d2 d3 d4 d5 d6 d7 d8 k1 k2 (ps s lm) bm)∧(M≠[]->N0 s d1 d2 d3 d4 d5 d6 d7 d8 k1 k2 0 n2 t5 b5=W0 s d1 d2 d3 d4 d5 d6 d7 d8 k1 k2 M.length (ps s lm) bm (rS M)))
  (lB1: ∀(d1 d2 d3 d4 d5 d6 d7 d8:D)(k1 k2:Bool)(m:Nat)(Q:List (List D)),(M=[]->N1 s d1 d2 d3 d4 d5 d6 d7 d8 k1 k2 m Q 0 n2 t5 b5=a0v s d1 d2 d3 d4 d5 d6 d7 d8 k1 k2 m Q (ps s lm) bm)∧(M≠[]->N1 s d1 d2 d3 d4 d5 d6 d7 d8 k1 k2 m Q 0 n2 t5 b5=W1 s d1 d2 d3 d4 d5 d6 d7 d8 k1 k2 m Q M.length (ps s lm) bm (rS M)))
  (hT: ∀p5 p6,c6 Tryz.prog T1 L1 13 [.agg (b5t C T (c8 p5 1 (rS N)) (c8 p6 1 (rS M)))] []=some (if G=true then .tup [.c (.d (.v (.string (B (X))))),.c (.d (.v (.bool (true))))]else .tup [.c (.d (.v (.string (B ([]))))),.c (.d (.v (.bool (false))))],[])):c6 Tryz.prog T1 L1 4 [.c (.d (.v (.string (B (s)))))] []=some (wJ (!bm&&(K1&&(K2&&(G&&decide (X=s))))) C T N M,[]):=by
 have kN:=e8 (rS N) N.length (i7 N)
 have kM:=e8 (rS M) M.length (i7 M)
 have k0:=e8 [] 0 rfl
 have hzt:W2=.tup [.agg [nl,nl,zi,zi,zi,nl,nl,es,nl,nl],.c (.d (.v (.bool (false))))]:=rfl
 by_cases h1:N=[]<;>by_cases h2:M=[]
 ·replace hT:=hT true true
  rw[j6 1 (rS N) (by rw[h1];rfl),j6 1 (rS M) (by rw[h2];rfl)]at hT
  have hz: ∀q,q=false->wJ q C T N M=.tup [.agg [nl,nl,zi,zi,zi,nl,nl,es,nl,nl],.c (.d (.v (.bool (false))))]:=fun q hq=>by rw[hq];rfl
  cases hb:bm with
  |true=>
   rw[hb]at lB0 lB1
   rw[hz _ (by simp)]
   cases G
   all_goals exact c8t s _ _ _ _ _ _ _ _ _ _ _ true _ K1 K2 _ _ u w _ 0 0 [] [] (c8 true 1 (rS C.Texts)) (c8 true 2 (g9 C.List)) (.v (.int .i64 (0))) (.v (.int .i64 (C.Line))) (.v (.int .i64 (C.End))) (c8 true 2 (rV T.Vars)) (c8 true 3 (rC T.Cells)) (.v (.string (B (T.Out)))) g1 g2 r1 r2 g3 ((lA (c8 true 1 (rS C.Texts)) (c8 true 2 (g9 C.List)) (.v (.int .i64 (0))) (.v (.int .i64 (C.Line))) (.v (.int .i64 (C.End))) (c8 true 2 (rV T.Vars)) (c8 true 3 (rC T.Cells)) (.v (.string (B (T.Out)))) _ _).1 h1) g4 ((lB0 (c8 true 1 (rS C.Texts)) (c8 true 2 (g9 C.List)) (.v (.int .i64 (0))) (.v (.int .i64 (C.Line))) (.v (.int .i64 (C.End))) (c8 true 2 (rV T.Vars)) (c8 true 3 (rC T.Cells)) (.v (.string (B (T.Out)))) _ _).1 h2) k0 k0 hT rfl
  |false=>
   rw[hb]at lB0 lB1
   cases K1 with
   |false=>
    rw[hz _ (by simp)]
    cases G
    all_goals exact c8t s _ _ _ _ _ _ _ _ _ _ _ false _ false K2 _ _ u w _ 0 0 [] [] (c8 true 1 (rS C.Texts)) (c8 true 2 (g9 C.List)) (.v (.int .i64 (0))) (.v (.int .i64 (C.Line))) (.v (.int .i64 (C.End))) (c8 true 2 (rV T.Vars)) (c8 true 3 (rC T.Cells)) (.v (.string (B (T.Out)))) g1 g2 r1 r2 g3 ((lA (c8 true 1 (rS C.Texts)) (c8 true 2 (g9 C.List)) (.v (.int .i64 (0))) (.v (.int .i64 (C.Line))) (.v (.int .i64 (C.End))) (c8 true 2 (rV T.Vars)) (c8 true 3 (rC T.Cells)) (.v (.string (B (T.Out)))) _ _).1 h1) g4 ((lB0 (c8 true 1 (rS C.Texts)) (c8 true 2 (g9 C.List)) (.v (.int .i64 (0))) (.v (.int .i64 (C.Line))) (.v (.int .i64 (C.End))) (c8 true 2 (rV T.Vars)) (c8 true 3 (rC T.Cells)) (.v (.string (B (T.Out)))) _ _).1 h2) k0 k0 hT rfl
   |true=>
    cases K2 with
    |false=>
     rw[hz _ (by simp)]
     cases G
     all_goals exact c8u s _ _ _ _ _ _ _ _ _ _ _ _ false _ _ u w _ 0 0 [] [] (c8 true 1 (rS C.Texts)) (c8 true 2 (g9 C.List)) (.v (.int .i64 (0))) (.v (.int .i64 (C.Line))) (.v (.int .i64 (C.End))) (c8 true 2 (rV T.Vars)) (c8 true 3 (rC T.Cells)) (.v (.string (B (T.Out)))) g1 g2 r1 r2 g3 ((lA (c8 true 1 (rS C.Texts)) (c8 true 2 (g9 C.List)) (.v (.int .i64 (0))) (.v (.int .i64 (C.Line))) (.v (.int .i64 (C.End))) (c8 true 2 (rV T.Vars)) (c8 true 3 (rC T.Cells)) (.v (.string (B (T.Out)))) _ _).1 h1) g4 ((lB0 (c8 true 1 (rS C.Texts)) (c8 true 2 (g9 C.List)) (.v (.int .i64 (0))) (.v (.int .i64 (C.Line))) (.v (.int .i64 (C.End))) (c8 true 2 (rV T.Vars)) (c8 true 3 (rC T.Cells)) (.v (.string (B (T.Out)))) _ _).1 h2) k0 k0 hT rfl
    |true=>
     cases G with
     |false=>
      rw[hz _ (by simp)]
      exact c8u s _ _ _ _ _ _ _ _ _ _ _ false true _ _ u w _ 0 0 [] [] (c8 true 1 (rS C.Texts)) (c8 true 2 (g9 C.List)) (.v (.int .i64 (0))) (.v (.int .i64 (C.Line))) (.v (.int .i64 (C.End))) (c8 true 2 (rV T.Vars)) (c8 true 3 (rC T.Cells)) (.v (.string (B (T.Out)))) g1 g2 r1 r2 g3 ((lA (c8 true 1 (rS C.Texts)) (c8 true 2 (g9 C.List)) (.v (.int .i64 (0))) (.v (.int .i64 (C.Line))) (.v (.int .i64 (C.End))) (c8 true 2 (rV T.Vars)) (c8 true 3 (rC T.Cells)) (.v (.string (B (T.Out)))) _ _).1 h1) g4 ((lB0 (c8 true 1 (rS C.Texts)) (c8 true 2 (g9 C.List)) (.v (.int .i64 (0))) (.v (.int .i64 (C.Line))) (.v (.int .i64 (C.End))) (c8 true 2 (rV T.Vars)) (c8 true 3 (rC T.Cells)) (.v (.string (B (T.Out)))) _ _).1 h2) k0 k0 hT rfl
     |true=>
      have f:=e7g s _ _ _ _ _ _ _ _ _ _ _ _ _ u w X 0 0 [] [] (c8 true 1 (rS C.Texts)) (c8 true 2 (g9 C.List)) (.v (.int .i64 (0))) (.v (.int .i64 (C.Line))) (.v (.int .i64 (C.End))) (c8 true 2 (rV T.Vars)) (c8 true 3 (rC T.Cells)) (.v (.string (B (T.Out)))) g1 g2 r1 r2 g3 ((lA (c8 true 1 (rS C.Texts)) (c8 true 2 (g9 C.List)) (.v (.int .i64 (0))) (.v (.int .i64 (C.Line))) (.v (.int .i64 (C.End))) (c8 true 2 (rV T.Vars)) (c8 true 3 (rC T.Cells)) (.v (.string (B (T.Out)))) _ _).1 h1) g4 ((lB0 (c8 true 1 (rS C.Texts)) (c8 true 2 (g9 C.List)) (.v (.int .i64 (0))) (.v (.int .i64 (C.Line))) (.v (.int .i64 (C.End))) (c8 true 2 (rV T.Vars)) (c8 true 3 (rC T.Cells)) (.v (.string (B (T.Out)))) _ _).1 h2) k0 k0 hT
      refine f.trans ?_
      simp only[Bool.not_false,Bool.true_and]
      cases decide (X=s)with
      |false=>rfl
      |true=>
       unfold wJ b5t
       rw[if_pos rfl,if_pos rfl,j6 1 (rS N) (by rw[h1];rfl),j6 1 (rS M) (by rw[h2];rfl)]
 ·replace hT:=hT true false
  rw[j6 1 (rS N) (by rw[h1];rfl)]at hT
  have hz: ∀q,q=false->wJ q C T N M=.tup [.agg [nl,nl,zi,zi,zi,nl,nl,es,nl,nl],.c (.d (.v (.bool (false))))]:=fun q hq=>by rw[hq];rfl
  cases hb:bm with
  |true=>
   rw[hb]at lB0 lB1
   rw[hz _ (by simp)]
   cases G
   all_goals exact c8v s _ _ _ _ _ _ _ _ _ _ _ true _ K1 K2 _ _ u w _ 0 M.length [] (rS M) (c8 true 1 (rS C.Texts)) (c8 true 2 (g9 C.List)) (.v (.int .i64 (0))) (.v (.int .i64 (C.Line))) (.v (.int .i64 (C.End))) (c8 true 2 (rV T.Vars)) (c8 true 3 (rC T.Cells)) (.v (.string (B (T.Out)))) g1 g2 r1 r2 g3 ((lA (c8 true 1 (rS C.Texts)) (c8 true 2 (g9 C.List)) (.v (.int .i64 (0))) (.v (.int .i64 (C.Line))) (.v (.int .i64 (C.End))) (c8 true 2 (rV T.Vars)) (c8 true 3 (rC T.Cells)) (.v (.string (B (T.Out)))) _ _).1 h1) g4 ((lB0 (c8 true 1 (rS C.Texts)) (c8 true 2 (g9 C.List)) (.v (.int .i64 (0))) (.v (.int .i64 (C.Line))) (.v (.int .i64 (C.End))) (c8 true 2 (rV T.Vars)) (c8 true 3 (rC T.Cells)) (.v (.string (B (T.Out)))) _ _).2 h2) k0 kM hT rfl
  |false=>
   rw[hb]at lB0 lB1
   cases K1 with
   |false=>
    rw[hz _ (by simp)]
    cases G
    all_goals exact c8v s _ _ _ _ _ _ _ _ _ _ _ false _ false K2 _ _ u w _ 0 M.length [] (rS M) (c8 true 1 (rS C.Texts)) (c8 true 2 (g9 C.List)) (.v (.int .i64 (0))) (.v (.int .i64 (C.Line))) (.v (.int .i64 (C.End))) (c8 true 2 (rV T.Vars)) (c8 true 3 (rC T.Cells)) (.v (.string (B (T.Out)))) g1 g2 r1 r2 g3 ((lA (c8 true 1 (rS C.Texts)) (c8 true 2 (g9 C.List)) (.v (.int .i64 (0))) (.v (.int .i64 (C.Line))) (.v (.int .i64 (C.End))) (c8 true 2 (rV T.Vars)) (c8 true 3 (rC T.Cells)) (.v (.string (B (T.Out)))) _ _).1 h1) g4 ((lB0 (c8 true 1 (rS C.Texts)) (c8 true 2 (g9 C.List)) (.v (.int .i64 (0))) (.v (.int .i64 (C.Line))) (.v (.int .i64 (C.End))) (c8 true 2 (rV T.Vars)) (c8 true 3 (rC T.Cells)) (.v (.string (B (T.Out)))) _ _).2 h2) k0 kM hT rfl
   |true=>
    cases K2 with
    |false=>
     rw[hz _ (by simp)]
     cases G
     all_goals exact c8w s _ _ _ _ _ _ _ _ _ _ _ _ false _ _ u w _ 0 M.length [] (rS M) (c8 true 1 (rS C.Texts)) (c8 true 2 (g9 C.List)) (.v (.int .i64 (0))) (.v (.int .i64 (C.Line))) (.v (.int .i64 (C.End))) (c8 true 2 (rV T.Vars)) (c8 true 3 (rC T.Cells)) (.v (.string (B (T.Out)))) g1 g2 r1 r2 g3 ((lA (c8 true 1 (rS C.Texts)) (c8 true 2 (g9 C.List)) (.v (.int .i64 (0))) (.v (.int .i64 (C.Line))) (.v (.int .i64 (C.End))) (c8 true 2 (rV T.Vars)) (c8 true 3 (rC T.Cells)) (.v (.string (B (T.Out)))) _ _).1 h1) g4 ((lB0 (c8 true 1 (rS C.Texts)) (c8 true 2 (g9 C.List)) (.v (.int .i64 (0))) (.v (.int .i64 (C.Line))) (.v (.int .i64 (C.End))) (c8 true 2 (rV T.Vars)) (c8 true 3 (rC T.Cells)) (.v (.string (B (T.Out)))) _ _).2 h2) k0 kM hT rfl
    |true=>
     cases G with
     |false=>
      rw[hz _ (by simp)]
      exact c8w s _ _ _ _ _ _ _ _ _ _ _ false true _ _ u w _ 0 M.length [] (rS M) (c8 true 1 (rS C.Texts)) (c8 true 2 (g9 C.List)) (.v (.int .i64 (0))) (.v (.int .i64 (C.Line))) (.v (.int .i64 (C.End))) (c8 true 2 (rV T.Vars)) (c8 true 3 (rC T.Cells)) (.v (.string (B (T.Out)))) g1 g2 r1 r2 g3 ((lA (c8 true 1 (rS C.Texts)) (c8 true 2 (g9 C.List)) (.v (.int .i64 (0))) (.v (.int .i64 (C.Line))) (.v (.int .i64 (C.End))) (c8 true 2 (rV T.Vars)) (c8 true 3 (rC T.Cells)) (.v (.string (B (T.Out)))) _ _).1 h1) g4 ((lB0 (c8 true 1 (rS C.Texts)) (c8 true 2 (g9 C.List)) (.v (.int .i64 (0))) (.v (.int .i64 (C.Line))) (.v (.int .i64 (C.End))) (c8 true 2 (rV T.Vars)) (c8 true 3 (rC T.Cells)) (.v (.string (B (T.Out)))) _ _).2 h2) k0 kM hT rfl
     |true=>
      have f:=e7h s _ _ _ _ _ _ _ _ _ _ _ _ _ u w X 0 M.length [] (rS M) (c8 true 1 (rS C.Texts)) (c8 true 2 (g9 C.List)) (.v (.int .i64 (0))) (.v (.int .i64 (C.Line))) (.v (.int .i64 (C.End))) (c8 true 2 (rV T.Vars)) (c8 true 3 (rC T.Cells)) (.v (.string (B (T.Out)))) g1 g2 r1 r2 g3 ((lA (c8 true 1 (rS C.Texts)) (c8 true 2 (g9 C.List)) (.v (.int .i64 (0))) (.v (.int .i64 (C.Line))) (.v (.int .i64 (C.End))) (c8 true 2 (rV T.Vars)) (c8 true 3 (rC T.Cells)) (.v (.string (B (T.Out)))) _ _).1 h1) g4 ((lB0 (c8 true 1 (rS C.Texts)) (c8 true 2 (g9 C.List)) (.v (.int .i64 (0))) (.v (.int .i64 (C.Line))) (.v (.int .i64 (C.End))) (c8 true 2 (rV T.Vars)) (c8 true 3 (rC T.Cells)) (.v (.string (B (T.Out)))) _ _).2 h2) k0 kM hT
      refine f.trans ?_
      simp only[Bool.not_false,Bool.true_and]
      cases decide (X=s)with
      |false=>rfl
      |true=>
       unfold wJ b5t
       rw[if_pos rfl,if_pos rfl,j6 1 (rS N) (by rw[h1];rfl),o7 true 1 (rS M) (F5 h2)]
 ·replace hT:=hT false true
  rw[j6 1 (rS M) (by rw[h2];rfl)]at hT
  have hz: ∀q,q=false->wJ q C T N M=.tup [.agg [nl,nl,zi,zi,zi,nl,nl,es,nl,nl],.c (.d (.v (.bool (false))))]:=fun q hq=>by rw[hq];rfl
  cases hb:bm with
  |true=>
   rw[hb]at lB0 lB1
   rw[hz _ (by simp)]
   cases G
   all_goals exact c8x s _ _ _ _ _ _ _ _ _ _ _ true _ K1 K2 _ _ u w _ N.length 0 (rS N) [] (c8 true 1 (rS C.Texts)) (c8 true 2 (g9 C.List)) (.v (.int .i64 (0))) (.v (.int .i64 (C.Line))) (.v (.int .i64 (C.End))) (c8 true 2 (rV T.Vars)) (c8 true 3 (rC T.Cells)) (.v (.string (B (T.Out)))) g1 g2 r1 r2 g3 ((lA (c8 true 1 (rS C.Texts)) (c8 true 2 (g9 C.List)) (.v (.int .i64 (0))) (.v (.int .i64 (C.Line))) (.v (.int .i64 (C.End))) (c8 true 2 (rV T.Vars)) (c8 true 3 (rC T.Cells)) (.v (.string (B (T.Out)))) _ _).2 h1) g4 ((lB1 (c8 true 1 (rS C.Texts)) (c8 true 2 (g9 C.List)) (.v (.int .i64 (0))) (.v (.int .i64 (C.Line))) (.v (.int .i64 (C.End))) (c8 true 2 (rV T.Vars)) (c8 true 3 (rC T.Cells)) (.v (.string (B (T.Out)))) _ _ _ _).1 h2) kN k0 hT rfl
  |false=>
   rw[hb]at lB0 lB1
   cases K1 with
   |false=>
    rw[hz _ (by simp)]
    cases G
    all_goals exact c8x s _ _ _ _ _ _ _ _ _ _ _ false _ false K2 _ _ u w _ N.length 0 (rS N) [] (c8 true 1 (rS C.Texts)) (c8 true 2 (g9 C.List)) (.v (.int .i64 (0))) (.v (.int .i64 (C.Line))) (.v (.int .i64 (C.End))) (c8 true 2 (rV T.Vars)) (c8 true 3 (rC T.Cells)) (.v (.string (B (T.Out)))) g1 g2 r1 r2 g3 ((lA (c8 true 1 (rS C.Texts)) (c8 true 2 (g9 C.List)) (.v (.int .i64 (0))) (.v (.int .i64 (C.Line))) (.v (.int .i64 (C.End))) (c8 true 2 (rV T.Vars)) (c8 true 3 (rC T.Cells)) (.v (.string (B (T.Out)))) _ _).2 h1) g4 ((lB1 (c8 true 1 (rS C.Texts)) (c8 true 2 (g9 C.List)) (.v (.int .i64 (0))) (.v (.int .i64 (C.Line))) (.v (.int .i64 (C.End))) (c8 true 2 (rV T.Vars)) (c8 true 3 (rC T.Cells)) (.v (.string (B (T.Out)))) _ _ _ _).1 h2) kN k0 hT rfl
   |true=>
    cases K2 with
    |false=>
     rw[hz _ (by simp)]
     cases G
     all_goals exact c8y s _ _ _ _ _ _ _ _ _ _ _ _ false _ _ u w _ N.length 0 (rS N) [] (c8 true 1 (rS C.Texts)) (c8 true 2 (g9 C.List)) (.v (.int .i64 (0))) (.v (.int .i64 (C.Line))) (.v (.int .i64 (C.End))) (c8 true 2 (rV T.Vars)) (c8 true 3 (rC T.Cells)) (.v (.string (B (T.Out)))) g1 g2 r1 r2 g3 ((lA (c8 true 1 (rS C.Texts)) (c8 true 2 (g9 C.List)) (.v (.int .i64 (0))) (.v (.int .i64 (C.Line))) (.v (.int .i64 (C.End))) (c8 true 2 (rV T.Vars)) (c8 true 3 (rC T.Cells)) (.v (.string (B (T.Out)))) _ _).2 h1) g4 ((lB1 (c8 true 1 (rS C.Texts)) (c8 true 2 (g9 C.List)) (.v (.int .i64 (0))) (.v (.int .i64 (C.Line))) (.v (.int .i64 (C.End))) (c8 true 2 (rV T.Vars)) (c8 true 3 (rC T.Cells)) (.v (.string (B (T.Out)))) _ _ _ _).1 h2) kN k0 hT rfl
    |true=>
     cases G with
     |false=>
      rw[hz _ (by simp)]
      exact c8y s _ _ _ _ _ _ _ _ _ _ _ false true _ _ u w _ N.length 0 (rS N) [] (c8 true 1 (rS C.Texts)) (c8 true 2 (g9 C.List)) (.v (.int .i64 (0))) (.v (.int .i64 (C.Line))) (.v (.int .i64 (C.End))) (c8 true 2 (rV T.Vars)) (c8 true 3 (rC T.Cells)) (.v (.string (B (T.Out)))) g1 g2 r1 r2 g3 ((lA (c8 true 1 (rS C.Texts)) (c8 true 2 (g9 C.List)) (.v (.int .i64 (0))) (.v (.int .i64 (C.Line))) (.v (.int .i64 (C.End))) (c8 true 2 (rV T.Vars)) (c8 true 3 (rC T.Cells)) (.v (.string (B (T.Out)))) _ _).2 h1) g4 ((lB1 (c8 true 1 (rS C.Texts)) (c8 true 2 (g9 C.List)) (.v (.int .i64 (0))) (.v (.int .i64 (C.Line))) (.v (.int .i64 (C.End))) (c8 true 2 (rV T.Vars)) (c8 true 3 (rC T.Cells)) (.v (.string (B (T.Out)))) _ _ _ _).1 h2) kN k0 hT rfl
     |true=>
      have f:=e7i s _ _ _ _ _ _ _ _ _ _ _ _ _ u w X N.length 0 (rS N) [] (c8 true 1 (rS C.Texts)) (c8 true 2 (g9 C.List)) (.v (.int .i64 (0))) (.v (.int .i64 (C.Line))) (.v (.int .i64 (C.End))) (c8 true 2 (rV T.Vars)) (c8 true 3 (rC T.Cells)) (.v (.string (B (T.Out)))) g1 g2 r1 r2 g3 ((lA (c8 true 1 (rS C.Texts)) (c8 true 2 (g9 C.List)) (.v (.int .i64 (0))) (.v (.int .i64 (C.Line))) (.v (.int .i64 (C.End))) (c8 true 2 (rV T.Vars)) (c8 true 3 (rC T.Cells)) (.v (.string (B (T.Out)))) _ _).2 h1) g4 ((lB1 (c8 true 1 (rS C.Texts)) (c8 true 2 (g9 C.List)) (.v (.int .i64 (0))) (.v (.int .i64 (C.Line))) (.v (.int .i64 (C.End))) (c8 true 2 (rV T.Vars)) (c8 true 3 (rC T.Cells)) (.v (.string (B (T.Out)))) _ _ _ _).1 h2) kN k0 hT
      refine f.trans ?_
      simp only[Bool.not_false,Bool.true_and]
      cases decide (X=s)with
      |false=>rfl
      |true=>
       unfold wJ b5t
       rw[if_pos rfl,if_pos rfl,o7 true 1 (rS N) (F5 h1),j6 1 (rS M) (by rw[h2];rfl)]
 ·replace hT:=hT false false
  have hz: ∀q,q=false->wJ q C T N M=.tup [.agg [nl,nl,zi,zi,zi,nl,nl,es,nl,nl],.c (.d (.v (.bool (false))))]:=fun q hq=>by rw[hq];rfl
  cases hb:bm with
  |true=>
   rw[hb]at lB0 lB1
   rw[hz _ (by simp)]
   cases G
   all_goals exact c8z s _ _ _ _ _ _ _ _ _ _ _ true _ K1 K2 _ _ u w _ N.length M.length (rS N) (rS M) (c8 true 1 (rS C.Texts)) (c8 true 2 (g9 C.List)) (.v (.int .i64 (0))) (.v (.int .i64 (C.Line))) (.v (.int .i64 (C.End))) (c8 true 2 (rV T.Vars)) (c8 true 3 (rC T.Cells)) (.v (.string (B (T.Out)))) g1 g2 r1 r2 g3 ((lA (c8 true 1 (rS C.Texts)) (c8 true 2 (g9 C.List)) (.v (.int .i64 (0))) (.v (.int .i64 (C.Line))) (.v (.int .i64 (C.End))) (c8 true 2 (rV T.Vars)) (c8 true 3 (rC T.Cells)) (.v (.string (B (T.Out)))) _ _).2 h1) g4 ((lB1 (c8 true 1 (rS C.Texts)) (c8 true 2 (g9 C.List)) (.v (.int .i64 (0))) (.v (.int .i64 (C.Line))) (.v (.int .i64 (C.End))) (c8 true 2 (rV T.Vars)) (c8 true 3 (rC T.Cells)) (.v (.string (B (T.Out)))) _ _ _ _).2 h2) kN kM hT rfl
  |false=>
   rw[hb]at lB0 lB1
   cases K1 with
   |false=>
    rw[hz _ (by simp)]
    cases G
    all_goals exact c8z s _ _ _ _ _ _ _ _ _ _ _ false _ false K2 _ _ u w _ N.length M.length (rS N) (rS M) (c8 true 1 (rS C.Texts)) (c8 true 2 (g9 C.List)) (.v (.int .i64 (0))) (.v (.int .i64 (C.Line))) (.v (.int .i64 (C.End))) (c8 true 2 (rV T.Vars)) (c8 true 3 (rC T.Cells)) (.v (.string (B (T.Out)))) g1 g2 r1 r2 g3 ((lA (c8 true 1 (rS C.Texts)) (c8 true 2 (g9 C.List)) (.v (.int .i64 (0))) (.v (.int .i64 (C.Line))) (.v (.int .i64 (C.End))) (c8 true 2 (rV T.Vars)) (c8 true 3 (rC T.Cells)) (.v (.string (B (T.Out)))) _ _).2 h1) g4 ((lB1 (c8 true 1 (rS C.Texts)) (c8 true 2 (g9 C.List)) (.v (.int .i64 (0))) (.v (.int .i64 (C.Line))) (.v (.int .i64 (C.End))) (c8 true 2 (rV T.Vars)) (c8 true 3 (rC T.Cells)) (.v (.string (B (T.Out)))) _ _ _ _).2 h2) kN kM hT rfl
   |true=>
    cases K2 with
    |false=>
     rw[hz _ (by simp)]
     cases G
     all_goals exact c9a s _ _ _ _ _ _ _ _ _ _ _ _ false _ _ u w _ N.length M.length (rS N) (rS M) (c8 true 1 (rS C.Texts)) (c8 true 2 (g9 C.List)) (.v (.int .i64 (0))) (.v (.int .i64 (C.Line))) (.v (.int .i64 (C.End))) (c8 true 2 (rV T.Vars)) (c8 true 3 (rC T.Cells)) (.v (.string (B (T.Out)))) g1 g2 r1 r2 g3 ((lA (c8 true 1 (rS C.Texts)) (c8 true 2 (g9 C.List)) (.v (.int .i64 (0))) (.v (.int .i64 (C.Line))) (.v (.int .i64 (C.End))) (c8 true 2 (rV T.Vars)) (c8 true 3 (rC T.Cells)) (.v (.string (B (T.Out)))) _ _).2 h1) g4 ((lB1 (c8 true 1 (rS C.Texts)) (c8 true 2 (g9 C.List)) (.v (.int .i64 (0))) (.v (.int .i64 (C.Line))) (.v (.int .i64 (C.End))) (c8 true 2 (rV T.Vars)) (c8 true 3 (rC T.Cells)) (.v (.string (B (T.Out)))) _ _ _ _).2 h2) kN kM hT rfl
    |true=>
     cases G with
     |false=>
      rw[hz _ (by simp)]
      exact c9a s _ _ _ _ _ _ _ _ _ _ _ false true _ _ u w _ N.length M.length (rS N) (rS M) (c8 true 1 (rS C.Texts)) (c8 true 2 (g9 C.List)) (.v (.int .i64 (0))) (.v (.int .i64 (C.Line))) (.v (.int .i64 (C.End))) (c8 true 2 (rV T.Vars)) (c8 true 3 (rC T.Cells)) (.v (.string (B (T.Out)))) g1 g2 r1 r2 g3 ((lA (c8 true 1 (rS C.Texts)) (c8 true 2 (g9 C.List)) (.v (.int .i64 (0))) (.v (.int .i64 (C.Line))) (.v (.int .i64 (C.End))) (c8 true 2 (rV T.Vars)) (c8 true 3 (rC T.Cells)) (.v (.string (B (T.Out)))) _ _).2 h1) g4 ((lB1 (c8 true 1 (rS C.Texts)) (c8 true 2 (g9 C.List)) (.v (.int .i64 (0))) (.v (.int .i64 (C.Line))) (.v (.int .i64 (C.End))) (c8 true 2 (rV T.Vars)) (c8 true 3 (rC T.Cells)) (.v (.string (B (T.Out)))) _ _ _ _).2 h2) kN kM hT rfl
     |true=>
      have f:=e7j s _ _ _ _ _ _ _ _ _ _ _ _ _ u w X N.length M.length (rS N) (rS M) (c8 true 1 (rS C.Texts)) (c8 true 2 (g9 C.List)) (.v (.int .i64 (0))) (.v (.int .i64 (C.Line))) (.v (.int .i64 (C.End))) (c8 true 2 (rV T.Vars)) (c8 true 3 (rC T.Cells)) (.v (.string (B (T.Out)))) g1 g2 r1 r2 g3 ((lA (c8 true 1 (rS C.Texts)) (c8 true 2 (g9 C.List)) (.v (.int .i64 (0))) (.v (.int .i64 (C.Line))) (.v (.int .i64 (C.End))) (c8 true 2 (rV T.Vars)) (c8 true 3 (rC T.Cells)) (.v (.string (B (T.Out)))) _ _).2 h1) g4 ((lB1 (c8 true 1 (rS C.Texts)) (c8 true 2 (g9 C.List)) (.v (.int .i64 (0))) (.v (.int .i64 (C.Line))) (.v (.int .i64 (C.End))) (c8 true 2 (rV T.Vars)) (c8 true 3 (rC T.Cells)) (.v (.string (B (T.Out)))) _ _ _ _).2 h2) kN kM hT
      refine f.trans ?_
      simp only[Bool.not_false,Bool.true_and]
      cases decide (X=s)with
      |false=>rfl
      |true=>
       unfold wJ b5t
       rw[if_pos rfl,if_pos rfl,o7 true 1 (rS N) (F5 h1),o7 true 1 (rS M) (F5 h2)]
theorem c6r(rd:List UInt8->Bool)(hR:C5 82 rd)(s:List UInt8)(hm:s.length<=1000000000):c6 Tryz.prog T1 L1 4 [.c (.d (.v (.string (B (s)))))] []=some (wJ (a7w rd s) (jS rd s).1.Code (jS rd s).1.Begin (jS rd s).1.Names (jS rd s).1.Lines,[]):=by
 have g1:=k9 s s false hm (List.suffix_refl s)
 rw[a4f]at g1
 have s1:=n7 false (List.suffix_refl s)
 have g2:=k9 s (nS s false).2.1 (nS s false).2.2 hm s1
 have s2:=n7 (nS s false).2.2 s1
 have n1:=I7 (s:=s) (l:=s) false
 have n2:=I7 (s:=s) (l:=(nS s false).2.1) (nS s false).2.2
 unfold a7w jS
 generalize nS s false=u at*
 obtain⟨u,lu,bu⟩:=u
 simp only at g1 g2 s1 s2 n1 n2⊢
 generalize nS lu bu=w at*
 obtain⟨w,lw,bw⟩:=w
 simp only at g2 s2 n2⊢
 have r1:=f2u rd hR u (by omega)
 have r2:=f2v w (by omega)
 have s3:=J0 bw s2
 have s4:=e8a bw s2
 have b4:=d6z lw bw
 have s5:=J0 (K5 lw bw).2.2 s4
 have b6:=d6z (K5 lw bw).2.1 (K5 lw bw).2.2
 refine sRJ s u w lu lw (K5 lw bw).2.1 (K5 (K5 lw bw).2.1 (K5 lw bw).2.2).2.1 bu bw (K5 lw bw).2.2 (K5 (K5 lw bw).2.1 (K5 lw bw).2.2).2.2 (K5 lw bw).1 (K5 (K5 lw bw).2.1 (K5 lw bw).2.2).1 (cT (L6 rd u) (cS u).1) (sT (N2 w) (sS w).1) (L6 rd u) (N2 w) _ _ (nV lw bw).1 (nV (K5 lw bw).2.1 (K5 lw bw).2.2).1 _ _ _ _ g1 g2 r1 r2 (T8 s lw bw hm s2) (fun d1 d2 d3 d4 d5 d6 d7 d8 k1 k2=>f6v s d1 d2 d3 d4 d5 d6 d7 d8 k1 k2 hm (nV lw bw).1 (a8r lw bw) (nV lw bw).2.1 (nV lw bw).2.2 s3) (T8 s (K5 lw bw).2.1 (K5 lw bw).2.2 hm s4) (fun d1 d2 d3 d4 d5 d6 d7 d8 k1 k2=>f2s s d1 d2 d3 d4 d5 d6 d7 d8 k1 k2 hm _ (a8r _ _) _ _ s5) (fun d1 d2 d3 d4 d5 d6 d7 d8 k1 k2 m Q=>f2t s d1 d2 d3 d4 d5 d6 d7 d8 k1 k2 m Q hm _ (a8r _ _) _ _ s5) (fun p5 p6=>?_)
 have h:=d1x rd hR ⟨cT (L6 rd u) (cS u).1,sT (N2 w) (sS w).1,(K5 lw bw).1,(K5 (K5 lw bw).2.1 (K5 lw bw).2.2).1⟩ true true true true p5 p6 ⟨f6y _ u,f6z _ w,⟨Nat.le_trans b4.1 (by omega),fun x hx=>by have:=b4.2 x hx;omega⟩,⟨Nat.le_trans b6.1 (by omega),fun x hx=>by have:=b6.2 x hx;omega⟩⟩
 unfold x9 at h
 simp only[f9c]at h
 exact h
end
end Go.Vsi
namespace Go.Vsi
open Go.Proofs
noncomputable section
set_option maxRecDepth 100000
set_option maxHeartbeats 4000000
set_option linter.unusedSimpArgs false
set_option linter.unusedVariables false
attribute [local go_sem ↓] v6
def bGJ(x:C6):Prop:=x.Code.Texts.length<=1000∧x.Code.List.length<=1000∧x.Begin.Vars.length<=1000∧x.Begin.Cells.length<=10000∧x.Names.length<=1000∧x.Lines.length<=1000
abbrev fR(f:FuncId)(s:List UInt8)(w:W)(bs:List (Option k7)):Prop:=c6 Tryz.prog T1 L1 f [.c (.d (.v (.string (B (s)))))] []=some (w,bs)
theorem f7a(s:List UInt8)(hs:s.length<=1048576)(x:C6)(ok:Bool)(hx:bGJ x)(hB:x.Code.Begin=0)(h1:x.Code.Texts=[])(h2:x.Code.List=[])(h3:x.Begin.Vars=[])(h4:x.Begin.Cells=[])(h5:x.Names=[])(h6:x.Lines=[])(w:fR 4 s (.tup [.agg (x9 true true true true true true x),.c (.d (.v (.bool (ok))))]) [])(r:fR 5 s (.tup [.agg [nl,nl,zi,.d (.v (.int .i64 (x.Code.Line))),.d (.v (.int .i64 (x.Code.End))),nl,nl,.d (.v (.string (B (x.Begin.Out)))),nl,nl],.c (.d (.v (.bool (ok))))]) []):c6 Tryz.prog T1 L1 3 [.c (.d (.v (.string (B (s)))))] []=some (wb true,[]):=by
 obtain⟨b1,b2,b3,b4,b5,b6⟩:=hx
 have e:=H0 x ⟨b1,b2,b3,b4,b5,b6⟩ true true true true true true true true true true true true
 have m1:=a1h x.Code (1) ⟨b1,b2⟩ (by omega) h1 h2
 have m2:=a0f x.Begin (1+(x.Code.Texts.length:Int)+2*(x.Code.List.length:Int)) ⟨b3,b4⟩ (by omega) h3 h4
 have m3:=Y7 x.Names (1+(x.Code.Texts.length:Int)+2*(x.Code.List.length:Int)+2*(x.Begin.Vars.length:Int)+3*(x.Begin.Cells.length:Int)) h5
 have m4:=Y7 x.Lines (1+(x.Code.Texts.length:Int)+2*(x.Code.List.length:Int)+2*(x.Begin.Vars.length:Int)+3*(x.Begin.Cells.length:Int)+(x.Names.length:Int)) h6
 rw[hB]at m1
 simp only[x9,hB,A8]at e w
 have q1:=A0 x.Code.Texts (1) h1
 have q2:=D7 x.Code.List (1+(x.Code.Texts.length:Int)) h2
 have q3:=I0 x.Begin.Vars (1+(x.Code.Texts.length:Int)+2*(x.Code.List.length:Int)) h3
 have q4:=G5 x.Begin.Cells (1+(x.Code.Texts.length:Int)+2*(x.Code.List.length:Int)+2*(x.Begin.Vars.length:Int)) h4
 have q5:=A0 x.Names (1+(x.Code.Texts.length:Int)+2*(x.Code.List.length:Int)+2*(x.Begin.Vars.length:Int)+3*(x.Begin.Cells.length:Int)) h5
 have q6:=A0 x.Lines (1+(x.Code.Texts.length:Int)+2*(x.Code.List.length:Int)+2*(x.Begin.Vars.length:Int)+3*(x.Begin.Cells.length:Int)+(x.Names.length:Int)) h6
 have q:=A9 _ _ _ _ _ _ 0 x.Code.Line x.Code.End x.Begin.Out _ _ _ _ _ _ _ q1 q2 q3 q4 q5 q6 (by omega) (by omega) (by omega) (by omega) (by omega) (by omega)
 clear q1 q2 q3 q4 q5 q6
 have z1:c8 true 1 (rS x.Code.Texts)=.v (.slice none 0 0):=j6 _ _ (by rw[h1];rfl)
 rw[z1]at e w
 have z2:c8 true 2 (g9 x.Code.List)=.v (.slice none 0 0):=j6 _ _ (by rw[h2];rfl)
 rw[z2]at e w
 have z3:c8 true 2 (rV x.Begin.Vars)=.v (.slice none 0 0):=j6 _ _ (by rw[h3];rfl)
 rw[z3]at e w
 have z4:c8 true 3 (rC x.Begin.Cells)=.v (.slice none 0 0):=j6 _ _ (by rw[h4];rfl)
 rw[z4]at e w
 have z5:c8 true 1 (rS x.Names)=.v (.slice none 0 0):=j6 _ _ (by rw[h5];rfl)
 rw[z5]at e w
 have z6:c8 true 1 (rS x.Lines)=.v (.slice none 0 0):=j6 _ _ (by rw[h6];rfl)
 rw[z6]at e w
 have mj:c6 Tryz.prog T1 L1 7 [.agg [nl,nl,zi,.d (.v (.int .i64 (x.Code.Line))),.d (.v (.int .i64 (x.Code.End))),nl,nl,.d (.v (.string (B (x.Begin.Out)))),nl,nl],.c (.d (.v (.int .i64 (1))))] []=some (.one (.c (.d (.v (.int .i64 (1+(x.Code.Texts.length:Int)+2*(x.Code.List.length:Int)+2*(x.Begin.Vars.length:Int)+3*(x.Begin.Cells.length:Int)+(x.Names.length:Int)+(x.Lines.length:Int)))))),[]):=by
  clear e q w r
  clear hB h1 h2 h3 h4 h5 h6 z1 z2 z3 z4 z5 z6
  exact fn V7 Tryz.func7
 clear m1 m2 m3 m4 hB h1 h2 h3 h4 h5 h6 z1 z2 z3 z4 z5 z6
 have kp:0<=1+(x.Code.Texts.length:Int)+2*(x.Code.List.length:Int)+2*(x.Begin.Vars.length:Int)+3*(x.Begin.Cells.length:Int)+(x.Names.length:Int)+(x.Lines.length:Int):=by omega
 generalize 1+(x.Code.Texts.length:Int)+2*(x.Code.List.length:Int)+2*(x.Begin.Vars.length:Int)+3*(x.Begin.Cells.length:Int)+(x.Names.length:Int)+(x.Lines.length:Int)=K at q mj kp
 cases ok
 all_goals
  exact fn V3 Tryz.func3
end
end Go.Vsi
