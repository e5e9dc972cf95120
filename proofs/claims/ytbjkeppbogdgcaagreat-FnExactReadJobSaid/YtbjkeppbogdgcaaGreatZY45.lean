/- What the functions of the program, of the reference and of the law do (a part of it). -/
import Derived.Test.YtbjkeppbogdgcaaGreatZY36
import Derived.Test.YtbjkeppbogdgcaaGreatZY39
import Derived.Test.YtbjkeppbogdgcaaGreatZY40
import Derived.Test.YtbjkeppbogdgcaaGreatZY41
import Derived.Test.YtbjkeppbogdgcaaGreatZY42
namespace Go.Vsi
open Go.Proofs
noncomputable section
set_option maxRecDepth 100000
set_option maxHeartbeats 4000000
set_option linter.unusedSimpArgs false
set_option linter.unusedVariables false
attribute [local go_sem ↓] v6
theorem e7k(s l:List UInt8)(b:Bool)(hm:s.length<=1000000000)(hs:l<:+s):c6 Tryz.prog T1 L1 17 [.c (.ptr 0 0 0),.c (.d (.v (.int .i64 (20))))] [rd s (ps s l) b]=some (.one (.c (.arr 1 0 (nC 20 l b).1)),[rd s (ps s (i2 nS (nC 20 l b).1 (nC 20 l b).2.1 (nC 20 l b).2.2).2.1) (i2 nS (nC 20 l b).1 (nC 20 l b).2.1 (nC 20 l b).2.2).2.2,some (.arr 1 (rS (i2 nS (nC 20 l b).1 (nC 20 l b).2.1 (nC 20 l b).2.2).1))]):=by
 have g1:=a1z s l b 20 (by omega) hm hs
 have s1:=a5c 20 b hs
 have hn:=a0l 20 l b
 generalize nC 20 l b=a at*
 obtain⟨n,l1,b1⟩:=a
 simp only at g1 s1 hn⊢
 have hl:=L4 nS n l1 b1
 have lp:=e1k s hm n (by omega) n 0 0 [] l1 b1 s1 (by omega) (by omega) rfl
 rw[Nat.zero_add,List.nil_append]at lp
 exact ils s _ _ _ _ _ _ 20 n n _ g1 lp (e8 _ _ (by rw[i7,hl]))
theorem F5{xs:List (List UInt8)}(h:xs≠[]):rS xs≠[]:=by cases xs<;>simp_all[rS]
theorem D9{xs:List i6}(h:xs≠[]):g9 xs≠[]:=by cases xs<;>simp_all[g9]
theorem I8{xs:List v9}(h:xs≠[]):rV xs≠[]:=by cases xs<;>simp_all[rV]
theorem I9{xs:List q9}(h:xs≠[]):rC xs≠[]:=by cases xs<;>simp_all[rC]
theorem j7(i k:Nat)(R:List (List D))(r:List (Bool×Nat×List (List D)))(h:R=[]):S0 i ((false,k,R)::r)=(nl::(S0 i r).1,(S0 i r).2):=by rw[S0,if_pos ⟨rfl,h⟩]
theorem j9(i k:Nat)(R:List (List D))(r:List (Bool×Nat×List (List D)))(h:R≠[]):S0 i ((false,k,R)::r)=(.arr i 0 R.length::(S0 (i+1) r).1,some (.arr k R)::(S0 (i+1) r).2):=by rw[S0,if_neg (fun g=>h g.2)]
theorem j5(i k:Nat)(R:List (List D))(r:List (Bool×Nat×List (List D))):S0 i ((true,k,R)::r)=(.arr i 0 R.length::(S0 (i+1) r).1,some (.arr k R)::(S0 (i+1) r).2):=by rw[S0,if_neg (fun g=>by cases g.1)]
theorem u3(i:Nat):S0 i []=([],[]):=rfl
theorem f2p{rd:List UInt8->Bool}{x:n8×List UInt8×Bool}(h:okC rd x=false):a0h rd x=(.tup [.agg [nl,nl,zi,zi,zi],.c (.d (.v (.bool (false))))],[]):=by unfold a0h;rw[h,if_neg (by simp)]
theorem b2t{x:s8×List UInt8×Bool}(h:okS x=false):a0i x=(.tup [.agg [nl,nl,es],.c (.d (.v (.bool (false))))],[]):=by unfold a0i;rw[h,if_neg (by simp)]
theorem e7l{rd:List UInt8->Bool}{x:n8×List UInt8×Bool}(h:okC rd x=true)(h1:x.1.Texts=[])(h2:x.1.List=[]):a0h rd x=(.tup [.agg [nl,nl,zi,.d (.v (.int .i64 (x.1.Line))),.d (.v (.int .i64 (x.1.End)))],.c (.d (.v (.bool (true))))],[]):=by
 unfold a0h mkC
 rw[h,if_pos rfl,j7 _ _ _ _ (by rw[h1];rfl),j7 _ _ _ _ (by rw[h2];rfl),u3]
 simp only[i7,k8]
 rfl
theorem b0f{x:s8×List UInt8×Bool}(h:okS x=true)(h1:x.1.Vars=[])(h2:x.1.Cells=[]):a0i x=(.tup [.agg [nl,nl,.d (.v (.string (B (x.1.Out))))],.c (.d (.v (.bool (true))))],[]):=by
 unfold a0i mSt
 rw[h,if_pos rfl,j7 _ _ _ _ (by rw[h1];rfl),j7 _ _ _ _ (by rw[h2];rfl),u3]
 simp only[l7,l8]
 rfl
theorem e7m{rd:List UInt8->Bool}{x:n8×List UInt8×Bool}(h:okC rd x=true)(h1:x.1.Texts=[])(h2:x.1.List≠[]):a0h rd x=(.tup [.agg [nl,.arr 0 0 x.1.List.length,zi,.d (.v (.int .i64 (x.1.Line))),.d (.v (.int .i64 (x.1.End)))],.c (.d (.v (.bool (true))))],[some (.arr 2 (g9 x.1.List))]):=by
 unfold a0h mkC
 rw[h,if_pos rfl,j7 _ _ _ _ (by rw[h1];rfl),j9 _ _ _ _ (D9 h2),u3]
 simp only[i7,k8]
 rfl
theorem b0g{x:s8×List UInt8×Bool}(h:okS x=true)(h1:x.1.Vars=[])(h2:x.1.Cells≠[]):a0i x=(.tup [.agg [nl,.arr 0 0 x.1.Cells.length,.d (.v (.string (B (x.1.Out))))],.c (.d (.v (.bool (true))))],[some (.arr 3 (rC x.1.Cells))]):=by
 unfold a0i mSt
 rw[h,if_pos rfl,j7 _ _ _ _ (by rw[h1];rfl),j9 _ _ _ _ (I9 h2),u3]
 simp only[l7,l8]
 rfl
theorem e7n{rd:List UInt8->Bool}{x:n8×List UInt8×Bool}(h:okC rd x=true)(h1:x.1.Texts≠[])(h2:x.1.List=[]):a0h rd x=(.tup [.agg [.arr 0 0 x.1.Texts.length,nl,zi,.d (.v (.int .i64 (x.1.Line))),.d (.v (.int .i64 (x.1.End)))],.c (.d (.v (.bool (true))))],[some (.arr 1 (rS x.1.Texts))]):=by
 unfold a0h mkC
 rw[h,if_pos rfl,j9 _ _ _ _ (F5 h1),j7 _ _ _ _ (by rw[h2];rfl),u3]
 simp only[i7,k8]
 rfl
theorem b0h{x:s8×List UInt8×Bool}(h:okS x=true)(h1:x.1.Vars≠[])(h2:x.1.Cells=[]):a0i x=(.tup [.agg [.arr 0 0 x.1.Vars.length,nl,.d (.v (.string (B (x.1.Out))))],.c (.d (.v (.bool (true))))],[some (.arr 2 (rV x.1.Vars))]):=by
 unfold a0i mSt
 rw[h,if_pos rfl,j9 _ _ _ _ (I8 h1),j7 _ _ _ _ (by rw[h2];rfl),u3]
 simp only[l7,l8]
 rfl
theorem e7o{rd:List UInt8->Bool}{x:n8×List UInt8×Bool}(h:okC rd x=true)(h1:x.1.Texts≠[])(h2:x.1.List≠[]):a0h rd x=(.tup [.agg [.arr 0 0 x.1.Texts.length,.arr 1 0 x.1.List.length,zi,.d (.v (.int .i64 (x.1.Line))),.d (.v (.int .i64 (x.1.End)))],.c (.d (.v (.bool (true))))],[some (.arr 1 (rS x.1.Texts)),some (.arr 2 (g9 x.1.List))]):=by
 unfold a0h mkC
 rw[h,if_pos rfl,j9 _ _ _ _ (F5 h1),j9 _ _ _ _ (D9 h2),u3]
 simp only[i7,k8]
 rfl
theorem b0i{x:s8×List UInt8×Bool}(h:okS x=true)(h1:x.1.Vars≠[])(h2:x.1.Cells≠[]):a0i x=(.tup [.agg [.arr 0 0 x.1.Vars.length,.arr 1 0 x.1.Cells.length,.d (.v (.string (B (x.1.Out))))],.c (.d (.v (.bool (true))))],[some (.arr 2 (rV x.1.Vars)),some (.arr 3 (rC x.1.Cells))]):=by
 unfold a0i mSt
 rw[h,if_pos rfl,j9 _ _ _ _ (I8 h1),j9 _ _ _ _ (I9 h2),u3]
 simp only[l7,l8]
 rfl
theorem f6t(s:List UInt8):bdC (S1 s).1:=by
 have h1:=a0l 60 s false
 have h2:=L4 nS (nC 60 s false).1 (nC 60 s false).2.1 (nC 60 s false).2.2
 have h3:=a8u (nC 60 s false).1 (nC 60 s false).2.1 (nC 60 s false).2.2
 unfold S1
 generalize i2 nS (nC 60 s false).1 (nC 60 s false).2.1 (nC 60 s false).2.2=T at*
 obtain⟨T,l,b⟩:=T
 have h4:=a0l 250 l b
 have h5:=L4 r4 (nC 250 l b).1 (nC 250 l b).2.1 (nC 250 l b).2.2
 exact⟨by show T.length<=_;simp only at h2;omega,by show(i2 r4 (nC 250 l b).1 (nC 250 l b).2.1 (nC 250 l b).2.2).1.length<=_;omega,fun t ht=>by have:=h3 t ht;omega⟩
theorem f6u(s:List UInt8):bdS (T9 s).1:=by
 have h1:=a0l 60 s false
 have h2:=L4 r5 (nC 60 s false).1 (nC 60 s false).2.1 (nC 60 s false).2.2
 have h3:=b1d (nC 60 s false).1 (nC 60 s false).2.1 (nC 60 s false).2.2
 unfold T9
 generalize i2 r5 (nC 60 s false).1 (nC 60 s false).2.1 (nC 60 s false).2.2=T at*
 obtain⟨T,l,b⟩:=T
 have h4:=a0l 2000 l b
 have h5:=L4 i4 (nC 2000 l b).1 (nC 2000 l b).2.1 (nC 2000 l b).2.2
 have h6:=a5z (nC 2000 l b).1 (nC 2000 l b).2.1 (nC 2000 l b).2.2
 unfold sI2
 generalize i2 i4 (nC 2000 l b).1 (nC 2000 l b).2.1 (nC 2000 l b).2.2=C at*
 obtain⟨C,l3,b3⟩:=C
 have h7:=I7 (s:=s) (l:=l3) b3
 exact⟨by show T.length<=_;simp only at h2;omega,by show C.length<=_;simp only at h5;omega,fun t ht=>by have:=h3 t ht;omega,fun t ht=>by have:=h6 t ht;omega,by show(nS l3 b3).1.length<=_;omega⟩
def ls1(l:List UInt8)(b:Bool):List (List UInt8)×List UInt8×Bool:=i2 nS (nC 20 l b).1 (nC 20 l b).2.1 (nC 20 l b).2.2
def jI(s:List UInt8):C6×List UInt8×Bool:=
 let w:=nS (nS s false).2.1 (nS s false).2.2
 let n:=ls1 w.2.1 w.2.2
 let m:=ls1 n.2.1 n.2.2
 (⟨(S1 (nS s false).1).1,(T9 w.1).1,n.1,m.1⟩,m.2)
def okJ(rd:List UInt8->Bool)(s:List UInt8):Bool:=(!(jI s).2.2&&(jI s).2.1.isEmpty)&&(okC rd (S1 (nS s false).1)&&(okS (T9 (nS (nS s false).2.1 (nS s false).2.2).1)&&y8 (q8 rd (jI s).1.Code) (jI s).1))
def mJ(j:C6):List S×List (Option k7):=S0 0 [(false,1,rS j.Code.Texts),(false,2,g9 j.Code.List),(false,2,rV j.Begin.Vars),(false,3,rC j.Begin.Cells),(true,1,rS j.Names),(true,1,rS j.Lines)]
def X9(j:C6):List S:=(mJ j).1.take 2++[zi,.d (.v (.int .i64 (j.Code.Line))),.d (.v (.int .i64 (j.Code.End)))]++((mJ j).1.drop 2).take 2++[.d (.v (.string (B (j.Begin.Out))))]++(mJ j).1.drop 4
def W2:W:=.tup [.agg [nl,nl,zi,zi,zi,nl,nl,es,nl,nl],.c (.d (.v (.bool (false))))]
def e0l(rd:List UInt8->Bool)(s:List UInt8):W×List (Option k7):=if okJ rd s=true then(.tup [.agg (X9 (jI s).1),.c (.d (.v (.bool (true))))],(mJ (jI s).1).2)else(W2,[])
theorem c9b{s l:List UInt8}(b:Bool)(h:l<:+s):(ls1 l b).2.1<:+s:=P4 J6 _ s _ _ (a5c 20 b h)
theorem c9c(l:List UInt8)(b:Bool):(ls1 l b).1.length=(nC 20 l b).1:=L4 nS _ _ _
theorem d6t(l:List UInt8)(b:Bool):(ls1 l b).1.length<=20∧ ∀x∈(ls1 l b).1,x.length<=20000:=⟨by rw[c9c];exact a0l 20 l b,a8u _ _ _⟩
theorem d6u(s l:List UInt8)(b:Bool)(hm:s.length<=1000000000)(hs:l<:+s):c6 Tryz.prog T1 L1 17 [.c (.ptr 0 0 0),.c (.d (.v (.int .i64 (20))))] [rd s (ps s l) b]=some (.one (.c (.arr 1 0 (ls1 l b).1.length)),[rd s (ps s (ls1 l b).2.1) (ls1 l b).2.2,some (.arr 1 (rS (ls1 l b).1))]):=by
 rw[c9c]
 exact e7k s l b hm hs
theorem f8r(l:List UInt8):decide (l=[])=l.isEmpty:=by cases l<;>rfl
theorem j6(k:Nat)(R:List (List D))(h:R=[]):c8 true k R=.v (.slice none 0 0):=by rw[h];rfl
theorem c6q(rd:List UInt8->Bool)(hR:C5 78 rd)(s:List UInt8)(hm:s.length<=1000000000):c6 Tryz.prog T1 L1 5 [.c (.d (.v (.string (B (s)))))] []=some (e0l rd s):=by
 have g1:=w7 s s false hm (List.suffix_refl s)
 rw[a4f]at g1
 have s1:=n7 false (List.suffix_refl s)
 have g2:=w7 s (nS s false).2.1 (nS s false).2.2 hm s1
 have s2:=n7 (nS s false).2.2 s1
 have n1:=I7 (s:=s) (l:=s) false
 have n2:=I7 (s:=s) (l:=(nS s false).2.1) (nS s false).2.2
 unfold e0l okJ jI
 generalize nS s false=u at*
 obtain⟨u,lu,bu⟩:=u
 simp only at g1 g2 s1 s2 n1 n2⊢
 generalize nS lu bu=w at*
 obtain⟨w,lw,bw⟩:=w
 simp only at g2 s2 n2⊢
 have r1:=f2l rd hR u (by omega)
 have r2:=f2o w (by omega)
 have l1:=d6u s lw bw hm s2
 have s3:=c9b bw s2
 have b3:=d6t lw bw
 generalize ls1 lw bw=n at*
 obtain⟨n,ln,bn⟩:=n
 simp only at l1 s3 b3⊢
 have l2:=d6u s ln bn hm s3
 have s4:=c9b bn s3
 have b4:=d6t ln bn
 generalize ls1 ln bn=m at*
 obtain⟨m,lm,bm⟩:=m
 simp only at l2 s4 b4⊢
 have g5:=a0m s lm bm hm s4
 rw[f8r]at g5
 have c1:=f6t u
 have c2:=f6u w
 have hJ:=fun p1 p2 p3 p4=>d6a rd hR ⟨(S1 u).1,(T9 w).1,n,m⟩ p1 p2 p3 p4 false false ⟨c1,c2,⟨by show n.length<=_;omega,fun x hx=>by have:=b3.2 x hx;omega⟩,⟨by show m.length<=_;omega,fun x hx=>by have:=b4.2 x hx;omega⟩⟩
 have hB:(S1 u).1.Begin=0:=rfl
 have k5:=e8 (rS n) n.length (i7 n)
 have k6:=e8 (rS m) m.length (i7 m)
 unfold x9 at hJ
 simp only[hB]at hJ
 clear hR c1 c2 b3 b4
 generalize S1 u=X at*
 generalize T9 w=Y at*
 generalize (!bm&&lm.isEmpty)=p at*
 cases kC:okC rd X with
 |false=>
  rw[f2p kC]at r1
  cases kS:okS Y with
  |false=>
   rw[b2t kS]at r2
   refine(b1e s u w _ _ _ _ _ _ _ _ p false false (y8 (q8 rd X.1) ⟨X.1,Y.1,n,m⟩) 0 0 0 [] 0 0 0 0 n.length m.length [] [] [] [] (rS n) (rS m) g1 g2 r1 r2 l1 l2 g5 (e8 [] 0 rfl) (e8 [] 0 rfl) (e8 [] 0 rfl) (e8 [] 0 rfl) k5 k6 (fun _ h _=>by cases h)).trans ?_
   simp only[Bool.and_false,Bool.false_and,Bool.false_eq_true,if_false]
   rfl
  |true=>
   by_cases h3:Y.1.Vars=[]<;>by_cases h4:Y.1.Cells=[]
   ·rw[b0f kS h3 h4]at r2
    refine(b1e s u w _ _ _ _ _ _ _ _ p false true (y8 (q8 rd X.1) ⟨X.1,Y.1,n,m⟩) 0 0 0 _ 0 0 0 0 n.length m.length [] [] [] [] (rS n) (rS m) g1 g2 r1 r2 l1 l2 g5 (e8 [] 0 rfl) (e8 [] 0 rfl) (e8 [] 0 rfl) (e8 [] 0 rfl) k5 k6 (fun _ h _=>by cases h)).trans ?_
    simp only[Bool.and_false,Bool.false_and,Bool.false_eq_true,if_false]
    rfl
   ·rw[b0g kS h3 h4]at r2
    refine(c4j s u w _ _ _ _ _ _ _ _ p false true (y8 (q8 rd X.1) ⟨X.1,Y.1,n,m⟩) 0 0 0 _ 0 0 0 Y.1.Cells.length n.length m.length [] [] [] (rC Y.1.Cells) (rS n) (rS m) g1 g2 r1 r2 l1 l2 g5 (e8 [] 0 rfl) (e8 [] 0 rfl) (e8 [] 0 rfl) (e8 (rC Y.1.Cells) Y.1.Cells.length (l8 _)) k5 k6 (fun _ h _=>by cases h)).trans ?_
    simp only[Bool.and_false,Bool.false_and,Bool.false_eq_true,if_false]
    rfl
   ·rw[b0h kS h3 h4]at r2
    refine(c4k s u w _ _ _ _ _ _ _ _ p false true (y8 (q8 rd X.1) ⟨X.1,Y.1,n,m⟩) 0 0 0 _ 0 0 Y.1.Vars.length 0 n.length m.length [] [] (rV Y.1.Vars) [] (rS n) (rS m) g1 g2 r1 r2 l1 l2 g5 (e8 [] 0 rfl) (e8 [] 0 rfl) (e8 (rV Y.1.Vars) Y.1.Vars.length (l7 _)) (e8 [] 0 rfl) k5 k6 (fun _ h _=>by cases h)).trans ?_
    simp only[Bool.and_false,Bool.false_and,Bool.false_eq_true,if_false]
    rfl
   ·rw[b0i kS h3 h4]at r2
    refine(c4l s u w _ _ _ _ _ _ _ _ p false true (y8 (q8 rd X.1) ⟨X.1,Y.1,n,m⟩) 0 0 0 _ 0 0 Y.1.Vars.length Y.1.Cells.length n.length m.length [] [] (rV Y.1.Vars) (rC Y.1.Cells) (rS n) (rS m) g1 g2 r1 r2 l1 l2 g5 (e8 [] 0 rfl) (e8 [] 0 rfl) (e8 (rV Y.1.Vars) Y.1.Vars.length (l7 _)) (e8 (rC Y.1.Cells) Y.1.Cells.length (l8 _)) k5 k6 (fun _ h _=>by cases h)).trans ?_
    simp only[Bool.and_false,Bool.false_and,Bool.false_eq_true,if_false]
    rfl
 |true=>
  by_cases h1:X.1.Texts=[]<;>by_cases h2:X.1.List=[]
  ·rw[e7l kC h1 h2]at r1
   cases kS:okS Y with
   |false=>
    rw[b2t kS]at r2
    refine(b1e s u w _ _ _ _ _ _ _ _ p true false (y8 (q8 rd X.1) ⟨X.1,Y.1,n,m⟩) 0 _ _ [] 0 0 0 0 n.length m.length [] [] [] [] (rS n) (rS m) g1 g2 r1 r2 l1 l2 g5 (e8 [] 0 rfl) (e8 [] 0 rfl) (e8 [] 0 rfl) (e8 [] 0 rfl) k5 k6 (fun _ _ h=>by cases h)).trans ?_
    simp only[Bool.and_false,Bool.false_and,Bool.false_eq_true,if_false]
    rfl
   |true=>
    by_cases h3:Y.1.Vars=[]<;>by_cases h4:Y.1.Cells=[]
    ·rw[b0f kS h3 h4]at r2
     have g6:=hJ true true true true
     rw[j6 _ _ (by rw[h1];rfl),j6 _ _ (by rw[h2];rfl),j6 _ _ (by rw[h3];rfl),j6 _ _ (by rw[h4];rfl)]at g6
     refine(b1e s u w _ _ _ _ _ _ _ _ p true true (y8 (q8 rd X.1) ⟨X.1,Y.1,n,m⟩) 0 _ _ _ 0 0 0 0 n.length m.length [] [] [] [] (rS n) (rS m) g1 g2 r1 r2 l1 l2 g5 (e8 [] 0 rfl) (e8 [] 0 rfl) (e8 [] 0 rfl) (e8 [] 0 rfl) k5 k6 (fun _ _ _=>g6)).trans ?_
     unfold X9 mJ W2
     rw[j7 _ _ _ _ (by rw[h1];rfl),j7 _ _ _ _ (by rw[h2];rfl),j7 _ _ _ _ (by rw[h3];rfl),j7 _ _ _ _ (by rw[h4];rfl),j5,j5,u3]
     simp only[i7,k8,l7,l8]
     rfl
    ·rw[b0g kS h3 h4]at r2
     have g6:=hJ true true true false
     rw[j6 _ _ (by rw[h1];rfl),j6 _ _ (by rw[h2];rfl),j6 _ _ (by rw[h3];rfl)]at g6
     refine(c4j s u w _ _ _ _ _ _ _ _ p true true (y8 (q8 rd X.1) ⟨X.1,Y.1,n,m⟩) 0 _ _ _ 0 0 0 Y.1.Cells.length n.length m.length [] [] [] (rC Y.1.Cells) (rS n) (rS m) g1 g2 r1 r2 l1 l2 g5 (e8 [] 0 rfl) (e8 [] 0 rfl) (e8 [] 0 rfl) (e8 (rC Y.1.Cells) Y.1.Cells.length (l8 _)) k5 k6 (fun _ _ _=>g6)).trans ?_
     unfold X9 mJ W2
     rw[j7 _ _ _ _ (by rw[h1];rfl),j7 _ _ _ _ (by rw[h2];rfl),j7 _ _ _ _ (by rw[h3];rfl),j9 _ _ _ _ (I9 h4),j5,j5,u3]
     simp only[i7,k8,l7,l8]
     rfl
    ·rw[b0h kS h3 h4]at r2
     have g6:=hJ true true false true
     rw[j6 _ _ (by rw[h1];rfl),j6 _ _ (by rw[h2];rfl),j6 _ _ (by rw[h4];rfl)]at g6
     refine(c4k s u w _ _ _ _ _ _ _ _ p true true (y8 (q8 rd X.1) ⟨X.1,Y.1,n,m⟩) 0 _ _ _ 0 0 Y.1.Vars.length 0 n.length m.length [] [] (rV Y.1.Vars) [] (rS n) (rS m) g1 g2 r1 r2 l1 l2 g5 (e8 [] 0 rfl) (e8 [] 0 rfl) (e8 (rV Y.1.Vars) Y.1.Vars.length (l7 _)) (e8 [] 0 rfl) k5 k6 (fun _ _ _=>g6)).trans ?_
     unfold X9 mJ W2
     rw[j7 _ _ _ _ (by rw[h1];rfl),j7 _ _ _ _ (by rw[h2];rfl),j9 _ _ _ _ (I8 h3),j7 _ _ _ _ (by rw[h4];rfl),j5,j5,u3]
     simp only[i7,k8,l7,l8]
     rfl
    ·rw[b0i kS h3 h4]at r2
     have g6:=hJ true true false false
     rw[j6 _ _ (by rw[h1];rfl),j6 _ _ (by rw[h2];rfl)]at g6
     refine(c4l s u w _ _ _ _ _ _ _ _ p true true (y8 (q8 rd X.1) ⟨X.1,Y.1,n,m⟩) 0 _ _ _ 0 0 Y.1.Vars.length Y.1.Cells.length n.length m.length [] [] (rV Y.1.Vars) (rC Y.1.Cells) (rS n) (rS m) g1 g2 r1 r2 l1 l2 g5 (e8 [] 0 rfl) (e8 [] 0 rfl) (e8 (rV Y.1.Vars) Y.1.Vars.length (l7 _)) (e8 (rC Y.1.Cells) Y.1.Cells.length (l8 _)) k5 k6 (fun _ _ _=>g6)).trans ?_
     unfold X9 mJ W2
     rw[j7 _ _ _ _ (by rw[h1];rfl),j7 _ _ _ _ (by rw[h2];rfl),j9 _ _ _ _ (I8 h3),j9 _ _ _ _ (I9 h4),j5,j5,u3]
     simp only[i7,k8,l7,l8]
     rfl
  ·rw[e7m kC h1 h2]at r1
   cases kS:okS Y with
   |false=>
    rw[b2t kS]at r2
    refine(c4m s u w _ _ _ _ _ _ _ _ p true false (y8 (q8 rd X.1) ⟨X.1,Y.1,n,m⟩) 0 _ _ [] 0 X.1.List.length 0 0 n.length m.length [] (g9 X.1.List) [] [] (rS n) (rS m) g1 g2 r1 r2 l1 l2 g5 (e8 [] 0 rfl) (e8 (g9 X.1.List) X.1.List.length (k8 _)) (e8 [] 0 rfl) (e8 [] 0 rfl) k5 k6 (fun _ _ h=>by cases h)).trans ?_
    simp only[Bool.and_false,Bool.false_and,Bool.false_eq_true,if_false]
    rfl
   |true=>
    by_cases h3:Y.1.Vars=[]<;>by_cases h4:Y.1.Cells=[]
    ·rw[b0f kS h3 h4]at r2
     have g6:=hJ true false true true
     rw[j6 _ _ (by rw[h1];rfl),j6 _ _ (by rw[h3];rfl),j6 _ _ (by rw[h4];rfl)]at g6
     refine(c4m s u w _ _ _ _ _ _ _ _ p true true (y8 (q8 rd X.1) ⟨X.1,Y.1,n,m⟩) 0 _ _ _ 0 X.1.List.length 0 0 n.length m.length [] (g9 X.1.List) [] [] (rS n) (rS m) g1 g2 r1 r2 l1 l2 g5 (e8 [] 0 rfl) (e8 (g9 X.1.List) X.1.List.length (k8 _)) (e8 [] 0 rfl) (e8 [] 0 rfl) k5 k6 (fun _ _ _=>g6)).trans ?_
     unfold X9 mJ W2
     rw[j7 _ _ _ _ (by rw[h1];rfl),j9 _ _ _ _ (D9 h2),j7 _ _ _ _ (by rw[h3];rfl),j7 _ _ _ _ (by rw[h4];rfl),j5,j5,u3]
     simp only[i7,k8,l7,l8]
     rfl
    ·rw[b0g kS h3 h4]at r2
     have g6:=hJ true false true false
     rw[j6 _ _ (by rw[h1];rfl),j6 _ _ (by rw[h3];rfl)]at g6
     refine(e0c s u w _ _ _ _ _ _ _ _ p true true (y8 (q8 rd X.1) ⟨X.1,Y.1,n,m⟩) 0 _ _ _ 0 X.1.List.length 0 Y.1.Cells.length n.length m.length [] (g9 X.1.List) [] (rC Y.1.Cells) (rS n) (rS m) g1 g2 r1 r2 l1 l2 g5 (e8 [] 0 rfl) (e8 (g9 X.1.List) X.1.List.length (k8 _)) (e8 [] 0 rfl) (e8 (rC Y.1.Cells) Y.1.Cells.length (l8 _)) k5 k6 (fun _ _ _=>g6)).trans ?_
     unfold X9 mJ W2
     rw[j7 _ _ _ _ (by rw[h1];rfl),j9 _ _ _ _ (D9 h2),j7 _ _ _ _ (by rw[h3];rfl),j9 _ _ _ _ (I9 h4),j5,j5,u3]
     simp only[i7,k8,l7,l8]
     rfl
    ·rw[b0h kS h3 h4]at r2
     have g6:=hJ true false false true
     rw[j6 _ _ (by rw[h1];rfl),j6 _ _ (by rw[h4];rfl)]at g6
     refine(e0d s u w _ _ _ _ _ _ _ _ p true true (y8 (q8 rd X.1) ⟨X.1,Y.1,n,m⟩) 0 _ _ _ 0 X.1.List.length Y.1.Vars.length 0 n.length m.length [] (g9 X.1.List) (rV Y.1.Vars) [] (rS n) (rS m) g1 g2 r1 r2 l1 l2 g5 (e8 [] 0 rfl) (e8 (g9 X.1.List) X.1.List.length (k8 _)) (e8 (rV Y.1.Vars) Y.1.Vars.length (l7 _)) (e8 [] 0 rfl) k5 k6 (fun _ _ _=>g6)).trans ?_
     unfold X9 mJ W2
     rw[j7 _ _ _ _ (by rw[h1];rfl),j9 _ _ _ _ (D9 h2),j9 _ _ _ _ (I8 h3),j7 _ _ _ _ (by rw[h4];rfl),j5,j5,u3]
     simp only[i7,k8,l7,l8]
     rfl
    ·rw[b0i kS h3 h4]at r2
     have g6:=hJ true false false false
     rw[j6 _ _ (by rw[h1];rfl)]at g6
     refine(e0e s u w _ _ _ _ _ _ _ _ p true true (y8 (q8 rd X.1) ⟨X.1,Y.1,n,m⟩) 0 _ _ _ 0 X.1.List.length Y.1.Vars.length Y.1.Cells.length n.length m.length [] (g9 X.1.List) (rV Y.1.Vars) (rC Y.1.Cells) (rS n) (rS m) g1 g2 r1 r2 l1 l2 g5 (e8 [] 0 rfl) (e8 (g9 X.1.List) X.1.List.length (k8 _)) (e8 (rV Y.1.Vars) Y.1.Vars.length (l7 _)) (e8 (rC Y.1.Cells) Y.1.Cells.length (l8 _)) k5 k6 (fun _ _ _=>g6)).trans ?_
     unfold X9 mJ W2
     rw[j7 _ _ _ _ (by rw[h1];rfl),j9 _ _ _ _ (D9 h2),j9 _ _ _ _ (I8 h3),j9 _ _ _ _ (I9 h4),j5,j5,u3]
     simp only[i7,k8,l7,l8]
     rfl
  ·rw[e7n kC h1 h2]at r1
   cases kS:okS Y with
   |false=>
    rw[b2t kS]at r2
    refine(c4n s u w _ _ _ _ _ _ _ _ p true false (y8 (q8 rd X.1) ⟨X.1,Y.1,n,m⟩) 0 _ _ [] X.1.Texts.length 0 0 0 n.length m.length (rS X.1.Texts) [] [] [] (rS n) (rS m) g1 g2 r1 r2 l1 l2 g5 (e8 (rS X.1.Texts) X.1.Texts.length (i7 _)) (e8 [] 0 rfl) (e8 [] 0 rfl) (e8 [] 0 rfl) k5 k6 (fun _ _ h=>by cases h)).trans ?_
    simp only[Bool.and_false,Bool.false_and,Bool.false_eq_true,if_false]
    rfl
   |true=>
    by_cases h3:Y.1.Vars=[]<;>by_cases h4:Y.1.Cells=[]
    ·rw[b0f kS h3 h4]at r2
     have g6:=hJ false true true true
     rw[j6 _ _ (by rw[h2];rfl),j6 _ _ (by rw[h3];rfl),j6 _ _ (by rw[h4];rfl)]at g6
     refine(c4n s u w _ _ _ _ _ _ _ _ p true true (y8 (q8 rd X.1) ⟨X.1,Y.1,n,m⟩) 0 _ _ _ X.1.Texts.length 0 0 0 n.length m.length (rS X.1.Texts) [] [] [] (rS n) (rS m) g1 g2 r1 r2 l1 l2 g5 (e8 (rS X.1.Texts) X.1.Texts.length (i7 _)) (e8 [] 0 rfl) (e8 [] 0 rfl) (e8 [] 0 rfl) k5 k6 (fun _ _ _=>g6)).trans ?_
     unfold X9 mJ W2
     rw[j9 _ _ _ _ (F5 h1),j7 _ _ _ _ (by rw[h2];rfl),j7 _ _ _ _ (by rw[h3];rfl),j7 _ _ _ _ (by rw[h4];rfl),j5,j5,u3]
     simp only[i7,k8,l7,l8]
     rfl
    ·rw[b0g kS h3 h4]at r2
     have g6:=hJ false true true false
     rw[j6 _ _ (by rw[h2];rfl),j6 _ _ (by rw[h3];rfl)]at g6
     refine(e0f s u w _ _ _ _ _ _ _ _ p true true (y8 (q8 rd X.1) ⟨X.1,Y.1,n,m⟩) 0 _ _ _ X.1.Texts.length 0 0 Y.1.Cells.length n.length m.length (rS X.1.Texts) [] [] (rC Y.1.Cells) (rS n) (rS m) g1 g2 r1 r2 l1 l2 g5 (e8 (rS X.1.Texts) X.1.Texts.length (i7 _)) (e8 [] 0 rfl) (e8 [] 0 rfl) (e8 (rC Y.1.Cells) Y.1.Cells.length (l8 _)) k5 k6 (fun _ _ _=>g6)).trans ?_
     unfold X9 mJ W2
     rw[j9 _ _ _ _ (F5 h1),j7 _ _ _ _ (by rw[h2];rfl),j7 _ _ _ _ (by rw[h3];rfl),j9 _ _ _ _ (I9 h4),j5,j5,u3]
     simp only[i7,k8,l7,l8]
     rfl
    ·rw[b0h kS h3 h4]at r2
     have g6:=hJ false true false true
     rw[j6 _ _ (by rw[h2];rfl),j6 _ _ (by rw[h4];rfl)]at g6
     refine(e0g s u w _ _ _ _ _ _ _ _ p true true (y8 (q8 rd X.1) ⟨X.1,Y.1,n,m⟩) 0 _ _ _ X.1.Texts.length 0 Y.1.Vars.length 0 n.length m.length (rS X.1.Texts) [] (rV Y.1.Vars) [] (rS n) (rS m) g1 g2 r1 r2 l1 l2 g5 (e8 (rS X.1.Texts) X.1.Texts.length (i7 _)) (e8 [] 0 rfl) (e8 (rV Y.1.Vars) Y.1.Vars.length (l7 _)) (e8 [] 0 rfl) k5 k6 (fun _ _ _=>g6)).trans ?_
     unfold X9 mJ W2
     rw[j9 _ _ _ _ (F5 h1),j7 _ _ _ _ (by rw[h2];rfl),j9 _ _ _ _ (I8 h3),j7 _ _ _ _ (by rw[h4];rfl),j5,j5,u3]
     simp only[i7,k8,l7,l8]
     rfl
    ·rw[b0i kS h3 h4]at r2
     have g6:=hJ false true false false
     rw[j6 _ _ (by rw[h2];rfl)]at g6
     refine(e0h s u w _ _ _ _ _ _ _ _ p true true (y8 (q8 rd X.1) ⟨X.1,Y.1,n,m⟩) 0 _ _ _ X.1.Texts.length 0 Y.1.Vars.length Y.1.Cells.length n.length m.length (rS X.1.Texts) [] (rV Y.1.Vars) (rC Y.1.Cells) (rS n) (rS m) g1 g2 r1 r2 l1 l2 g5 (e8 (rS X.1.Texts) X.1.Texts.length (i7 _)) (e8 [] 0 rfl) (e8 (rV Y.1.Vars) Y.1.Vars.length (l7 _)) (e8 (rC Y.1.Cells) Y.1.Cells.length (l8 _)) k5 k6 (fun _ _ _=>g6)).trans ?_
     unfold X9 mJ W2
     rw[j9 _ _ _ _ (F5 h1),j7 _ _ _ _ (by rw[h2];rfl),j9 _ _ _ _ (I8 h3),j9 _ _ _ _ (I9 h4),j5,j5,u3]
     simp only[i7,k8,l7,l8]
     rfl
  ·rw[e7o kC h1 h2]at r1
   cases kS:okS Y with
   |false=>
    rw[b2t kS]at r2
    refine(c4o s u w _ _ _ _ _ _ _ _ p true false (y8 (q8 rd X.1) ⟨X.1,Y.1,n,m⟩) 0 _ _ [] X.1.Texts.length X.1.List.length 0 0 n.length m.length (rS X.1.Texts) (g9 X.1.List) [] [] (rS n) (rS m) g1 g2 r1 r2 l1 l2 g5 (e8 (rS X.1.Texts) X.1.Texts.length (i7 _)) (e8 (g9 X.1.List) X.1.List.length (k8 _)) (e8 [] 0 rfl) (e8 [] 0 rfl) k5 k6 (fun _ _ h=>by cases h)).trans ?_
    simp only[Bool.and_false,Bool.false_and,Bool.false_eq_true,if_false]
    rfl
   |true=>
    by_cases h3:Y.1.Vars=[]<;>by_cases h4:Y.1.Cells=[]
    ·rw[b0f kS h3 h4]at r2
     have g6:=hJ false false true true
     rw[j6 _ _ (by rw[h3];rfl),j6 _ _ (by rw[h4];rfl)]at g6
     refine(c4o s u w _ _ _ _ _ _ _ _ p true true (y8 (q8 rd X.1) ⟨X.1,Y.1,n,m⟩) 0 _ _ _ X.1.Texts.length X.1.List.length 0 0 n.length m.length (rS X.1.Texts) (g9 X.1.List) [] [] (rS n) (rS m) g1 g2 r1 r2 l1 l2 g5 (e8 (rS X.1.Texts) X.1.Texts.length (i7 _)) (e8 (g9 X.1.List) X.1.List.length (k8 _)) (e8 [] 0 rfl) (e8 [] 0 rfl) k5 k6 (fun _ _ _=>g6)).trans ?_
     unfold X9 mJ W2
     rw[j9 _ _ _ _ (F5 h1),j9 _ _ _ _ (D9 h2),j7 _ _ _ _ (by rw[h3];rfl),j7 _ _ _ _ (by rw[h4];rfl),j5,j5,u3]
     simp only[i7,k8,l7,l8]
     rfl
    ·rw[b0g kS h3 h4]at r2
     have g6:=hJ false false true false
     rw[j6 _ _ (by rw[h3];rfl)]at g6
     refine(e0i s u w _ _ _ _ _ _ _ _ p true true (y8 (q8 rd X.1) ⟨X.1,Y.1,n,m⟩) 0 _ _ _ X.1.Texts.length X.1.List.length 0 Y.1.Cells.length n.length m.length (rS X.1.Texts) (g9 X.1.List) [] (rC Y.1.Cells) (rS n) (rS m) g1 g2 r1 r2 l1 l2 g5 (e8 (rS X.1.Texts) X.1.Texts.length (i7 _)) (e8 (g9 X.1.List) X.1.List.length (k8 _)) (e8 [] 0 rfl) (e8 (rC Y.1.Cells) Y.1.Cells.length (l8 _)) k5 k6 (fun _ _ _=>g6)).trans ?_
     unfold X9 mJ W2
     rw[j9 _ _ _ _ (F5 h1),j9 _ _ _ _ (D9 h2),j7 _ _ _ _ (by rw[h3];rfl),j9 _ _ _ _ (I9 h4),j5,j5,u3]
     simp only[i7,k8,l7,l8]
     rfl
    ·rw[b0h kS h3 h4]at r2
     have g6:=hJ false false false true
     rw[j6 _ _ (by rw[h4];rfl)]at g6
     refine(e0j s u w _ _ _ _ _ _ _ _ p true true (y8 (q8 rd X.1) ⟨X.1,Y.1,n,m⟩) 0 _ _ _ X.1.Texts.length X.1.List.length Y.1.Vars.length 0 n.length m.length (rS X.1.Texts) (g9 X.1.List) (rV Y.1.Vars) [] (rS n) (rS m) g1 g2 r1 r2 l1 l2 g5 (e8 (rS X.1.Texts) X.1.Texts.length (i7 _)) (e8 (g9 X.1.List) X.1.List.length (k8 _)) (e8 (rV Y.1.Vars) Y.1.Vars.length (l7 _)) (e8 [] 0 rfl) k5 k6 (fun _ _ _=>g6)).trans ?_
     unfold X9 mJ W2
     rw[j9 _ _ _ _ (F5 h1),j9 _ _ _ _ (D9 h2),j9 _ _ _ _ (I8 h3),j7 _ _ _ _ (by rw[h4];rfl),j5,j5,u3]
     simp only[i7,k8,l7,l8]
     rfl
    ·rw[b0i kS h3 h4]at r2
     have g6:=hJ false false false false
     refine(e0k s u w _ _ _ _ _ _ _ _ p true true (y8 (q8 rd X.1) ⟨X.1,Y.1,n,m⟩) 0 _ _ _ X.1.Texts.length X.1.List.length Y.1.Vars.length Y.1.Cells.length n.length m.length (rS X.1.Texts) (g9 X.1.List) (rV Y.1.Vars) (rC Y.1.Cells) (rS n) (rS m) g1 g2 r1 r2 l1 l2 g5 (e8 (rS X.1.Texts) X.1.Texts.length (i7 _)) (e8 (g9 X.1.List) X.1.List.length (k8 _)) (e8 (rV Y.1.Vars) Y.1.Vars.length (l7 _)) (e8 (rC Y.1.Cells) Y.1.Cells.length (l8 _)) k5 k6 (fun _ _ _=>g6)).trans ?_
     unfold X9 mJ W2
     rw[j9 _ _ _ _ (F5 h1),j9 _ _ _ _ (D9 h2),j9 _ _ _ _ (I8 h3),j9 _ _ _ _ (I9 h4),j5,j5,u3]
     simp only[i7,k8,l7,l8]
     rfl
end
end Go.Vsi
