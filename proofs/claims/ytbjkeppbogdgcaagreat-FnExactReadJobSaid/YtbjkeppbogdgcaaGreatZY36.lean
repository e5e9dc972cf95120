/- What the functions of the program, of the reference and of the law do (a part of it). -/
import Derived.Test.YtbjkeppbogdgcaaGreatZY35
namespace Go.Vsi
open Go.Proofs
noncomputable section
set_option maxRecDepth 100000
set_option maxHeartbeats 4000000
set_option linter.unusedSimpArgs false
set_option linter.unusedVariables false
attribute [local go_sem ↓] v6
theorem f2b(s:List UInt8)(t1 t2 t3 t4 t5 t6:Int)(b1 b2 b3 b4 b5 b6 p q:Bool)(n1 n2 x y:Int)(o:List UInt8)(M N:Nat)(Q R:List (List D))(g1:kR 36 s [.c (.d (.v (.int .i64 (60))))] 0 false (wi n1) t1 b1)(lp1:a0o s 0 n1 t1 b1=a8s s t2 b2)(g2:kR 36 s [.c (.d (.v (.int .i64 (250))))] t2 b2 (wi n2) t3 b3)(lp2:a7l s 0 n2 t3 b3=b7x s t4 b4)(g3:kR 38 s [] t4 b4 (wi x) t5 b5)(g4:kR 38 s [] t5 b5 (wi y) t6 b6)(tQ:Q.take M=Q)(tR:R.take N=R)(g5:kR 18 s [] t6 b6 (wb p) t6 b6)(g6:p=true->c6 Tryz.prog T1 L1 39 [.agg [nl,nl,zi,.d (.v (.int .i64 (x))),.d (.v (.int .i64 (y)))]] []=some (wb q,[])):c6 Tryz.prog T1 L1 14 [.c (.d (.v (.string (B (s)))))] []=some (if(p&&q)=true then(.tup [.agg [nl,nl,zi,.d (.v (.int .i64 (x))),.d (.v (.int .i64 (y)))],.c (.d (.v (.bool (true))))],[])else(.tup [.agg [nl,nl,zi,zi,zi],.c (.d (.v (.bool (false))))],[])):=by
 have hroom:room=70368744177664:=rfl
 dsimp only[a5v,a4p,a0o,a8s,a7k,a9y,a7l,b7x,x6,u9,u4,j8,j4,j2,kR,rd,wi,ws,wb,pw,nl,zi,es]at*
 cases p with
 |false=>
  clear g6
  simp only[Bool.true_and,Bool.false_and,Bool.and_true,Bool.and_false,Bool.not_true,Bool.not_false,if_true,if_false,Bool.false_eq_true,decide_true]
  exact fn V14 Tryz.func14
 |true=>
  replace g6:=g6 rfl
  cases q
  all_goals
   simp only[Bool.true_and,Bool.false_and,Bool.and_true,Bool.and_false,Bool.not_true,Bool.not_false,if_true,if_false,Bool.false_eq_true,decide_true]
   exact fn V14 Tryz.func14
theorem f2c(s:List UInt8)(t1 t2 t3 t4 t5 t6:Int)(b1 b2 b3 b4 b5 b6 p q:Bool)(n1 n2 x y:Int)(o:List UInt8)(M N:Nat)(Q R:List (List D))(g1:kR 36 s [.c (.d (.v (.int .i64 (60))))] 0 false (wi n1) t1 b1)(lp1:a0o s 0 n1 t1 b1=a8s s t2 b2)(g2:kR 36 s [.c (.d (.v (.int .i64 (250))))] t2 b2 (wi n2) t3 b3)(lp2:a7l s 0 n2 t3 b3=a9y s N t4 b4 R)(g3:kR 38 s [] t4 b4 (wi x) t5 b5)(g4:kR 38 s [] t5 b5 (wi y) t6 b6)(tQ:Q.take M=Q)(tR:R.take N=R)(g5:kR 18 s [] t6 b6 (wb p) t6 b6)(g6:p=true->c6 Tryz.prog T1 L1 39 [.agg [nl,.d (.sl 2 R),zi,.d (.v (.int .i64 (x))),.d (.v (.int .i64 (y)))]] []=some (wb q,[])):c6 Tryz.prog T1 L1 14 [.c (.d (.v (.string (B (s)))))] []=some (if(p&&q)=true then(.tup [.agg [nl,.arr 0 0 N,zi,.d (.v (.int .i64 (x))),.d (.v (.int .i64 (y)))],.c (.d (.v (.bool (true))))],[some (.arr 2 R)])else(.tup [.agg [nl,nl,zi,zi,zi],.c (.d (.v (.bool (false))))],[])):=by
 have hroom:room=70368744177664:=rfl
 dsimp only[a5v,a4p,a0o,a8s,a7k,a9y,a7l,b7x,x6,u9,u4,j8,j4,j2,kR,rd,wi,ws,wb,pw,nl,zi,es]at*
 cases p with
 |false=>
  clear g6
  simp only[Bool.true_and,Bool.false_and,Bool.and_true,Bool.and_false,Bool.not_true,Bool.not_false,if_true,if_false,Bool.false_eq_true,decide_true]
  exact fn V14 Tryz.func14
 |true=>
  replace g6:=g6 rfl
  cases q
  all_goals
   simp only[Bool.true_and,Bool.false_and,Bool.and_true,Bool.and_false,Bool.not_true,Bool.not_false,if_true,if_false,Bool.false_eq_true,decide_true]
   exact fn V14 Tryz.func14
theorem f2d(s:List UInt8)(t1 t2 t3 t4 t5 t6:Int)(b1 b2 b3 b4 b5 b6 p q:Bool)(n1 n2 x y:Int)(o:List UInt8)(M N:Nat)(Q R:List (List D))(g1:kR 36 s [.c (.d (.v (.int .i64 (60))))] 0 false (wi n1) t1 b1)(lp1:a0o s 0 n1 t1 b1=a4p s M t2 b2 Q)(g2:kR 36 s [.c (.d (.v (.int .i64 (250))))] t2 b2 (wi n2) t3 b3)(lp2:a7n s M Q 0 n2 t3 b3=b7y s M Q t4 b4)(g3:kR 38 s [] t4 b4 (wi x) t5 b5)(g4:kR 38 s [] t5 b5 (wi y) t6 b6)(tQ:Q.take M=Q)(tR:R.take N=R)(g5:kR 18 s [] t6 b6 (wb p) t6 b6)(g6:p=true->c6 Tryz.prog T1 L1 39 [.agg [.d (.sl 1 Q),nl,zi,.d (.v (.int .i64 (x))),.d (.v (.int .i64 (y)))]] []=some (wb q,[])):c6 Tryz.prog T1 L1 14 [.c (.d (.v (.string (B (s)))))] []=some (if(p&&q)=true then(.tup [.agg [.arr 0 0 M,nl,zi,.d (.v (.int .i64 (x))),.d (.v (.int .i64 (y)))],.c (.d (.v (.bool (true))))],[some (.arr 1 Q)])else(.tup [.agg [nl,nl,zi,zi,zi],.c (.d (.v (.bool (false))))],[])):=by
 have hroom:room=70368744177664:=rfl
 dsimp only[a5v,a4p,a0o,a8s,a7m,a9z,a7n,b7y,x6,u9,u4,j8,j4,j2,kR,rd,wi,ws,wb,pw,nl,zi,es]at*
 cases p with
 |false=>
  clear g6
  simp only[Bool.true_and,Bool.false_and,Bool.and_true,Bool.and_false,Bool.not_true,Bool.not_false,if_true,if_false,Bool.false_eq_true,decide_true]
  exact fn V14 Tryz.func14
 |true=>
  replace g6:=g6 rfl
  cases q
  all_goals
   simp only[Bool.true_and,Bool.false_and,Bool.and_true,Bool.and_false,Bool.not_true,Bool.not_false,if_true,if_false,Bool.false_eq_true,decide_true]
   exact fn V14 Tryz.func14
theorem f2e(s:List UInt8)(t1 t2 t3 t4 t5 t6:Int)(b1 b2 b3 b4 b5 b6 p q:Bool)(n1 n2 x y:Int)(o:List UInt8)(M N:Nat)(Q R:List (List D))(g1:kR 36 s [.c (.d (.v (.int .i64 (60))))] 0 false (wi n1) t1 b1)(lp1:a0o s 0 n1 t1 b1=a4p s M t2 b2 Q)(g2:kR 36 s [.c (.d (.v (.int .i64 (250))))] t2 b2 (wi n2) t3 b3)(lp2:a7n s M Q 0 n2 t3 b3=a9z s M Q N t4 b4 R)(g3:kR 38 s [] t4 b4 (wi x) t5 b5)(g4:kR 38 s [] t5 b5 (wi y) t6 b6)(tQ:Q.take M=Q)(tR:R.take N=R)(g5:kR 18 s [] t6 b6 (wb p) t6 b6)(g6:p=true->c6 Tryz.prog T1 L1 39 [.agg [.d (.sl 1 Q),.d (.sl 2 R),zi,.d (.v (.int .i64 (x))),.d (.v (.int .i64 (y)))]] []=some (wb q,[])):c6 Tryz.prog T1 L1 14 [.c (.d (.v (.string (B (s)))))] []=some (if(p&&q)=true then(.tup [.agg [.arr 0 0 M,.arr 1 0 N,zi,.d (.v (.int .i64 (x))),.d (.v (.int .i64 (y)))],.c (.d (.v (.bool (true))))],[some (.arr 1 Q),some (.arr 2 R)])else(.tup [.agg [nl,nl,zi,zi,zi],.c (.d (.v (.bool (false))))],[])):=by
 have hroom:room=70368744177664:=rfl
 dsimp only[a5v,a4p,a0o,a8s,a7m,a9z,a7n,b7y,x6,u9,u4,j8,j4,j2,kR,rd,wi,ws,wb,pw,nl,zi,es]at*
 cases p with
 |false=>
  clear g6
  simp only[Bool.true_and,Bool.false_and,Bool.and_true,Bool.and_false,Bool.not_true,Bool.not_false,if_true,if_false,Bool.false_eq_true,decide_true]
  exact fn V14 Tryz.func14
 |true=>
  replace g6:=g6 rfl
  cases q
  all_goals
   simp only[Bool.true_and,Bool.false_and,Bool.and_true,Bool.and_false,Bool.not_true,Bool.not_false,if_true,if_false,Bool.false_eq_true,decide_true]
   exact fn V14 Tryz.func14
theorem f2f(s:List UInt8)(t1 t2 t3 t4 t5 t6:Int)(b1 b2 b3 b4 b5 b6 p q:Bool)(n1 n2 x y:Int)(o:List UInt8)(M N:Nat)(Q R:List (List D))(g1:kR 36 s [.c (.d (.v (.int .i64 (60))))] 0 false (wi n1) t1 b1)(lp1:a0p s 0 n1 t1 b1=a8t s t2 b2)(g2:kR 36 s [.c (.d (.v (.int .i64 (2000))))] t2 b2 (wi n2) t3 b3)(lp2:a7p s 0 n2 t3 b3=b7z s t4 b4)(g3:kR 15 s [] t4 b4 (ws o) t6 b6)(tQ:Q.take M=Q)(tR:R.take N=R)(g5:kR 18 s [] t6 b6 (wb p) t6 b6)(g6:p=true->c6 Tryz.prog T1 L1 41 [.agg [nl,nl,.d (.v (.string (B (o))))]] []=some (wb q,[])):c6 Tryz.prog T1 L1 16 [.c (.d (.v (.string (B (s)))))] []=some (if(p&&q)=true then(.tup [.agg [nl,nl,.d (.v (.string (B (o))))],.c (.d (.v (.bool (true))))],[])else(.tup [.agg [nl,nl,es],.c (.d (.v (.bool (false))))],[])):=by
 have hroom:room=70368744177664:=rfl
 dsimp only[a5w,a4q,a0p,a8t,a7o,b0a,a7p,b7z,x6,u9,u4,j8,j4,j2,kR,rd,wi,ws,wb,pw,nl,zi,es]at*
 cases p with
 |false=>
  clear g6
  simp only[Bool.true_and,Bool.false_and,Bool.and_true,Bool.and_false,Bool.not_true,Bool.not_false,if_true,if_false,Bool.false_eq_true,decide_true]
  exact fn V16 Tryz.func16
 |true=>
  replace g6:=g6 rfl
  cases q
  all_goals
   simp only[Bool.true_and,Bool.false_and,Bool.and_true,Bool.and_false,Bool.not_true,Bool.not_false,if_true,if_false,Bool.false_eq_true,decide_true]
   exact fn V16 Tryz.func16
theorem f2g(s:List UInt8)(t1 t2 t3 t4 t5 t6:Int)(b1 b2 b3 b4 b5 b6 p q:Bool)(n1 n2 x y:Int)(o:List UInt8)(M N:Nat)(Q R:List (List D))(g1:kR 36 s [.c (.d (.v (.int .i64 (60))))] 0 false (wi n1) t1 b1)(lp1:a0p s 0 n1 t1 b1=a8t s t2 b2)(g2:kR 36 s [.c (.d (.v (.int .i64 (2000))))] t2 b2 (wi n2) t3 b3)(lp2:a7p s 0 n2 t3 b3=b0a s N t4 b4 R)(g3:kR 15 s [] t4 b4 (ws o) t6 b6)(tQ:Q.take M=Q)(tR:R.take N=R)(g5:kR 18 s [] t6 b6 (wb p) t6 b6)(g6:p=true->c6 Tryz.prog T1 L1 41 [.agg [nl,.d (.sl 3 R),.d (.v (.string (B (o))))]] []=some (wb q,[])):c6 Tryz.prog T1 L1 16 [.c (.d (.v (.string (B (s)))))] []=some (if(p&&q)=true then(.tup [.agg [nl,.arr 0 0 N,.d (.v (.string (B (o))))],.c (.d (.v (.bool (true))))],[some (.arr 3 R)])else(.tup [.agg [nl,nl,es],.c (.d (.v (.bool (false))))],[])):=by
 have hroom:room=70368744177664:=rfl
 dsimp only[a5w,a4q,a0p,a8t,a7o,b0a,a7p,b7z,x6,u9,u4,j8,j4,j2,kR,rd,wi,ws,wb,pw,nl,zi,es]at*
 cases p with
 |false=>
  clear g6
  simp only[Bool.true_and,Bool.false_and,Bool.and_true,Bool.and_false,Bool.not_true,Bool.not_false,if_true,if_false,Bool.false_eq_true,decide_true]
  exact fn V16 Tryz.func16
 |true=>
  replace g6:=g6 rfl
  cases q
  all_goals
   simp only[Bool.true_and,Bool.false_and,Bool.and_true,Bool.and_false,Bool.not_true,Bool.not_false,if_true,if_false,Bool.false_eq_true,decide_true]
   exact fn V16 Tryz.func16
theorem f2h(s:List UInt8)(t1 t2 t3 t4 t5 t6:Int)(b1 b2 b3 b4 b5 b6 p q:Bool)(n1 n2 x y:Int)(o:List UInt8)(M N:Nat)(Q R:List (List D))(g1:kR 36 s [.c (.d (.v (.int .i64 (60))))] 0 false (wi n1) t1 b1)(lp1:a0p s 0 n1 t1 b1=a4q s M t2 b2 Q)(g2:kR 36 s [.c (.d (.v (.int .i64 (2000))))] t2 b2 (wi n2) t3 b3)(lp2:a7r s M Q 0 n2 t3 b3=b8a s M Q t4 b4)(g3:kR 15 s [] t4 b4 (ws o) t6 b6)(tQ:Q.take M=Q)(tR:R.take N=R)(g5:kR 18 s [] t6 b6 (wb p) t6 b6)(g6:p=true->c6 Tryz.prog T1 L1 41 [.agg [.d (.sl 2 Q),nl,.d (.v (.string (B (o))))]] []=some (wb q,[])):c6 Tryz.prog T1 L1 16 [.c (.d (.v (.string (B (s)))))] []=some (if(p&&q)=true then(.tup [.agg [.arr 0 0 M,nl,.d (.v (.string (B (o))))],.c (.d (.v (.bool (true))))],[some (.arr 2 Q)])else(.tup [.agg [nl,nl,es],.c (.d (.v (.bool (false))))],[])):=by
 have hroom:room=70368744177664:=rfl
 dsimp only[a5w,a4q,a0p,a8t,a7q,b0b,a7r,b8a,x6,u9,u4,j8,j4,j2,kR,rd,wi,ws,wb,pw,nl,zi,es]at*
 cases p with
 |false=>
  clear g6
  simp only[Bool.true_and,Bool.false_and,Bool.and_true,Bool.and_false,Bool.not_true,Bool.not_false,if_true,if_false,Bool.false_eq_true,decide_true]
  exact fn V16 Tryz.func16
 |true=>
  replace g6:=g6 rfl
  cases q
  all_goals
   simp only[Bool.true_and,Bool.false_and,Bool.and_true,Bool.and_false,Bool.not_true,Bool.not_false,if_true,if_false,Bool.false_eq_true,decide_true]
   exact fn V16 Tryz.func16
theorem f2i(s:List UInt8)(t1 t2 t3 t4 t5 t6:Int)(b1 b2 b3 b4 b5 b6 p q:Bool)(n1 n2 x y:Int)(o:List UInt8)(M N:Nat)(Q R:List (List D))(g1:kR 36 s [.c (.d (.v (.int .i64 (60))))] 0 false (wi n1) t1 b1)(lp1:a0p s 0 n1 t1 b1=a4q s M t2 b2 Q)(g2:kR 36 s [.c (.d (.v (.int .i64 (2000))))] t2 b2 (wi n2) t3 b3)(lp2:a7r s M Q 0 n2 t3 b3=b0b s M Q N t4 b4 R)(g3:kR 15 s [] t4 b4 (ws o) t6 b6)(tQ:Q.take M=Q)(tR:R.take N=R)(g5:kR 18 s [] t6 b6 (wb p) t6 b6)(g6:p=true->c6 Tryz.prog T1 L1 41 [.agg [.d (.sl 2 Q),.d (.sl 3 R),.d (.v (.string (B (o))))]] []=some (wb q,[])):c6 Tryz.prog T1 L1 16 [.c (.d (.v (.string (B (s)))))] []=some (if(p&&q)=true then(.tup [.agg [.arr 0 0 M,.arr 1 0 N,.d (.v (.string (B (o))))],.c (.d (.v (.bool (true))))],[some (.arr 2 Q),some (.arr 3 R)])else(.tup [.agg [nl,nl,es],.c (.d (.v (.bool (false))))],[])):=by
 have hroom:room=70368744177664:=rfl
 dsimp only[a5w,a4q,a0p,a8t,a7q,b0b,a7r,b8a,x6,u9,u4,j8,j4,j2,kR,rd,wi,ws,wb,pw,nl,zi,es]at*
 cases p with
 |false=>
  clear g6
  simp only[Bool.true_and,Bool.false_and,Bool.and_true,Bool.and_false,Bool.not_true,Bool.not_false,if_true,if_false,Bool.false_eq_true,decide_true]
  exact fn V16 Tryz.func16
 |true=>
  replace g6:=g6 rfl
  cases q
  all_goals
   simp only[Bool.true_and,Bool.false_and,Bool.and_true,Bool.and_false,Bool.not_true,Bool.not_false,if_true,if_false,Bool.false_eq_true,decide_true]
   exact fn V16 Tryz.func16
theorem ils(s:List UInt8)(t t1 t2:Int)(b b1 b2:Bool)(m n1:Int)(N:Nat)(R:List (List D))(g1:kR 36 s [.c (.d (.v (.int .i64 (m))))] t b (wi n1) t1 b1)(lp1:c4h s 0 n1 0 t1 b1 ([])=e0b s N t2 b2 R)(tR:R.take N=R):c6 Tryz.prog T1 L1 17 [.c (.ptr 0 0 0),.c (.d (.v (.int .i64 (m))))] [rd s t b]=some (.one (.c (.arr 1 0 N)),[rd s t2 b2,some (.arr 1 R)]):=by
 have hroom:room=70368744177664:=rfl
 exact fn V17 Tryz.func17
end
end Go.Vsi
namespace Go.Vsi
open Go.Proofs
noncomputable section
set_option maxRecDepth 100000
set_option maxHeartbeats 4000000
set_option linter.unusedSimpArgs false
set_option linter.unusedVariables false
attribute [local go_sem ↓] v6
def S0:Nat->List (Bool×Nat×List (List D))->List S×List (Option k7)
 |_,[]=>([],[])
 |i,(kp,k,R)::r=>if kp=false∧R=[]then(nl::(S0 i r).1,(S0 i r).2)else(.arr i 0 R.length::(S0 (i+1) r).1,some (.arr k R)::(S0 (i+1) r).2)
theorem a4f(s:List UInt8):some (rB s s false)=rd s 0 false:=by
 unfold rB rd
 rw[Int.sub_self]
theorem a8u: ∀(n:Nat)(l:List UInt8)(b:Bool),∀x∈(i2 nS n l b).1,x.length<=20000
 |0,l,b,x,h=>by simp[i2]at h
 |n+1,l,b,x,h=>by
  simp only[i2,List.mem_cons]at h
  rcases h with h|h
  ·subst h;exact I7 (s:=l) b
  ·exact a8u n _ _ x h
theorem b1d: ∀(n:Nat)(l:List UInt8)(b:Bool),∀x∈(i2 r5 n l b).1,x.Name.length<=20000∧x.Val.length<=20000
 |0,l,b,x,h=>by simp[i2]at h
 |n+1,l,b,x,h=>by
  simp only[i2,List.mem_cons]at h
  rcases h with h|h
  ·subst h;exact⟨I7 (s:=l) b,I7 (s:=l) _⟩
  ·exact b1d n _ _ x h
theorem a5z: ∀(n:Nat)(l:List UInt8)(b:Bool),∀x∈(i2 i4 n l b).1,x.Name.length<=20000∧x.Key.length<=20000∧x.Val.length<=20000
 |0,l,b,x,h=>by simp[i2]at h
 |n+1,l,b,x,h=>by
  simp only[i2,List.mem_cons]at h
  rcases h with h|h
  ·subst h;exact⟨I7 (s:=l) b,I7 (s:=l) _,I7 (s:=l) _⟩
  ·exact a5z n _ _ x h
def cI3(T:List (List UInt8))(I:List i6)(l:List UInt8)(b:Bool):n8×List UInt8×Bool:=(⟨T,I,0,((nV l b).1:Int),((nV (nV l b).2.1 (nV l b).2.2).1:Int)⟩,(nV (nV l b).2.1 (nV l b).2.2).2)
def cI2(T:List (List UInt8))(l:List UInt8)(b:Bool):n8×List UInt8×Bool:=cI3 T (i2 r4 (nC 250 l b).1 (nC 250 l b).2.1 (nC 250 l b).2.2).1 (i2 r4 (nC 250 l b).1 (nC 250 l b).2.1 (nC 250 l b).2.2).2.1 (i2 r4 (nC 250 l b).1 (nC 250 l b).2.1 (nC 250 l b).2.2).2.2
def S1(s:List UInt8):n8×List UInt8×Bool:=cI2 (i2 nS (nC 60 s false).1 (nC 60 s false).2.1 (nC 60 s false).2.2).1 (i2 nS (nC 60 s false).1 (nC 60 s false).2.1 (nC 60 s false).2.2).2.1 (i2 nS (nC 60 s false).1 (nC 60 s false).2.1 (nC 60 s false).2.2).2.2
def sI3(V:List v9)(C:List q9)(l:List UInt8)(b:Bool):s8×List UInt8×Bool:=(⟨V,C,(nS l b).1⟩,(nS l b).2)
def sI2(V:List v9)(l:List UInt8)(b:Bool):s8×List UInt8×Bool:=sI3 V (i2 i4 (nC 2000 l b).1 (nC 2000 l b).2.1 (nC 2000 l b).2.2).1 (i2 i4 (nC 2000 l b).1 (nC 2000 l b).2.1 (nC 2000 l b).2.2).2.1 (i2 i4 (nC 2000 l b).1 (nC 2000 l b).2.1 (nC 2000 l b).2.2).2.2
def T9(s:List UInt8):s8×List UInt8×Bool:=sI2 (i2 r5 (nC 60 s false).1 (nC 60 s false).2.1 (nC 60 s false).2.2).1 (i2 r5 (nC 60 s false).1 (nC 60 s false).2.1 (nC 60 s false).2.2).2.1 (i2 r5 (nC 60 s false).1 (nC 60 s false).2.1 (nC 60 s false).2.2).2.2
def okC(rd:List UInt8->Bool)(x:n8×List UInt8×Bool):Bool:=(!x.2.2&&decide (x.2.1=[]))&&q8 rd x.1
def okS(x:s8×List UInt8×Bool):Bool:=(!x.2.2&&decide (x.2.1=[]))&&H1 x.1
def mkC(c:n8):List S×List (Option k7):=S0 0 [(false,1,rS c.Texts),(false,2,g9 c.List)]
def mSt(c:s8):List S×List (Option k7):=S0 0 [(false,2,rV c.Vars),(false,3,rC c.Cells)]
def a0h(rd:List UInt8->Bool)(x:n8×List UInt8×Bool):W×List (Option k7):=if okC rd x=true then(.tup [.agg ((mkC x.1).1++[zi,.d (.v (.int .i64 (x.1.Line))),.d (.v (.int .i64 (x.1.End)))]),.c (.d (.v (.bool (true))))],(mkC x.1).2)else(.tup [.agg [nl,nl,zi,zi,zi],.c (.d (.v (.bool (false))))],[])
def a0i(x:s8×List UInt8×Bool):W×List (Option k7):=if okS x=true then(.tup [.agg ((mSt x.1).1++[.d (.v (.string (B (x.1.Out))))]),.c (.d (.v (.bool (true))))],(mSt x.1).2)else(.tup [.agg [nl,nl,es],.c (.d (.v (.bool (false))))],[])
theorem f2j(rd:List UInt8->Bool)(hR:C5 78 rd)(s:List UInt8)(hm:s.length<=1000000000)(n1:Nat)(t1:Int)(b1:Bool)(l2:List UInt8)(b2:Bool)(s2:l2<:+s)(g1:kR 36 s [.c (.d (.v (.int .i64 (60))))] 0 false (wi n1) t1 b1)(lp1:a0o s 0 (n1:Int) t1 b1=a8s s (ps s l2) b2):c6 Tryz.prog T1 L1 14 [.c (.d (.v (.string (B (s)))))] []=some (a0h rd (cI2 [] l2 b2)):=by
 have g2:=a1z s l2 b2 250 (by omega) hm s2
 have s3:=a5c 250 b2 s2
 have hn:=a0l 250 l2 b2
 unfold cI2
 generalize nC 250 l2 b2=a at*
 obtain⟨n2,l3,b3⟩:=a
 simp only at g2 s3 hn⊢
 cases n2 with
 |zero=>
  simp only[i2]
  have g3:=Q8 s l3 b3 hm s3
  have s4:=J0 b3 s3
  have g4:=Q8 s (nV l3 b3).2.1 (nV l3 b3).2.2 hm s4
  have s5:=J0 (nV l3 b3).2.2 s4
  have g5:=a0m s _ (cI3 [] [] l3 b3).2.2 hm s5
  have g6:=a3f rd hR (cI3 [] [] l3 b3).1 true true ⟨Nat.zero_le _,Nat.zero_le _,fun x hx=>by(cases hx)⟩
  have fin:=f2b s _ _ _ _ _ _ _ _ _ _ _ _ _ _ _ _ _ _ [] 0 0 [] [] g1 lp1 g2 (e5m s (ps s l3) b3 0) g3 g4 (e8 [] 0 (by rfl)) (e8 [] 0 (by rfl)) g5 (fun _=>g6)
  refine fin.trans ?_
  first|rfl|(simp only[a0h,okC,mkC,S0,cI3,O2,J4,a9q,a7g,true_and,and_self,if_true,List.cons_append,List.nil_append,reduceCtorEq,if_false,and_false,List.length_cons,i7,k8];first|done|rfl)
 |succ m=>
  have g3:=Q8 s (i2 r4 (m+1) l3 b3).2.1 (i2 r4 (m+1) l3 b3).2.2 hm (P4 a2i (m+1) s l3 b3 s3)
  have s4:=J0 (i2 r4 (m+1) l3 b3).2.2 (P4 a2i (m+1) s l3 b3 s3)
  have g4:=Q8 s (nV (i2 r4 (m+1) l3 b3).2.1 (i2 r4 (m+1) l3 b3).2.2).2.1 (nV (i2 r4 (m+1) l3 b3).2.1 (i2 r4 (m+1) l3 b3).2.2).2.2 hm s4
  have s5:=J0 (nV (i2 r4 (m+1) l3 b3).2.1 (i2 r4 (m+1) l3 b3).2.2).2.2 s4
  have g5:=a0m s _ (cI3 [] (i2 r4 (m+1) l3 b3).1 (i2 r4 (m+1) l3 b3).2.1 (i2 r4 (m+1) l3 b3).2.2).2.2 hm s5
  have hI:=L4 r4 (m+1) l3 b3
  obtain⟨z,I,hz⟩: ∃z I,(i2 r4 (m+1) l3 b3).1=z::I:=by cases hh:(i2 r4 (m+1) l3 b3).1 with|nil=>(rw[hh]at hI;simp at hI)|cons z I=>exact⟨z,I,rfl⟩
  have g6:=a3f rd hR (cI3 [] (i2 r4 (m+1) l3 b3).1 (i2 r4 (m+1) l3 b3).2.1 (i2 r4 (m+1) l3 b3).2.2).1 true false ⟨Nat.zero_le _,by show(i2 r4 (m+1) l3 b3).1.length<=_;omega,fun x hx=>by(cases hx)⟩
  have fin:=f2c s _ _ _ _ _ _ _ _ _ _ _ _ _ _ _ _ _ _ [] 0 _ [] _ g1 lp1 g2 (e7c s hm m (by omega) l3 b3 s3) g3 g4 (e8 [] 0 (by rfl)) (e8 (g9 (i2 r4 (m+1) l3 b3).1) (m+1) (by rw[k8,hI])) g5 (fun _=>g6)
  refine fin.trans ?_
  have hI3:I.length=m:=by rw[hz]at hI;simpa using hI
  first|rfl|(simp only[a0h,okC,mkC,S0,cI3,hz,hI3,O2,J4,a9q,a7g,true_and,and_self,if_true,List.cons_append,List.nil_append,reduceCtorEq,if_false,and_false,List.length_cons,i7,k8];first|done|rfl)
theorem f2k(rd:List UInt8->Bool)(hR:C5 78 rd)(s:List UInt8)(hm:s.length<=1000000000)(n1:Nat)(t1:Int)(b1:Bool)(l2:List UInt8)(b2:Bool)(s2:l2<:+s)(y:List UInt8)(T:List (List UInt8))(hT:(y::T).length<=60)(bT: ∀x∈y::T,x.length<=20000)(g1:kR 36 s [.c (.d (.v (.int .i64 (60))))] 0 false (wi n1) t1 b1)(lp1:a0o s 0 (n1:Int) t1 b1=a4p s ((y::T).length) (ps s l2) b2 (rS (y::T))):c6 Tryz.prog T1 L1 14 [.c (.d (.v (.string (B (s)))))] []=some (a0h rd (cI2 (y::T) l2 b2)):=by
 have g2:=a1z s l2 b2 250 (by omega) hm s2
 have s3:=a5c 250 b2 s2
 have hn:=a0l 250 l2 b2
 unfold cI2
 generalize nC 250 l2 b2=a at*
 obtain⟨n2,l3,b3⟩:=a
 simp only at g2 s3 hn⊢
 cases n2 with
 |zero=>
  simp only[i2]
  have g3:=Q8 s l3 b3 hm s3
  have s4:=J0 b3 s3
  have g4:=Q8 s (nV l3 b3).2.1 (nV l3 b3).2.2 hm s4
  have s5:=J0 (nV l3 b3).2.2 s4
  have g5:=a0m s _ (cI3 (y::T) [] l3 b3).2.2 hm s5
  have g6:=a3f rd hR (cI3 (y::T) [] l3 b3).1 false true ⟨by show(y::T).length<=_;omega,Nat.zero_le _,fun x hx=>by have:=bT x hx;omega⟩
  have fin:=f2d s _ _ _ _ _ _ _ _ _ _ _ _ _ _ _ _ _ _ [] _ 0 _ [] g1 lp1 g2 (e5q s (y::T).length (rS (y::T)) (ps s l3) b3 0) g3 g4 (e8 (rS (y::T)) (y::T).length (by rw[i7])) (e8 [] 0 (by rfl)) g5 (fun _=>g6)
  refine fin.trans ?_
  first|rfl|(simp only[a0h,okC,mkC,S0,cI3,O2,J4,a9q,a7g,true_and,and_self,if_true,List.cons_append,List.nil_append,reduceCtorEq,if_false,and_false,List.length_cons,i7,k8];first|done|rfl)
 |succ m=>
  have g3:=Q8 s (i2 r4 (m+1) l3 b3).2.1 (i2 r4 (m+1) l3 b3).2.2 hm (P4 a2i (m+1) s l3 b3 s3)
  have s4:=J0 (i2 r4 (m+1) l3 b3).2.2 (P4 a2i (m+1) s l3 b3 s3)
  have g4:=Q8 s (nV (i2 r4 (m+1) l3 b3).2.1 (i2 r4 (m+1) l3 b3).2.2).2.1 (nV (i2 r4 (m+1) l3 b3).2.1 (i2 r4 (m+1) l3 b3).2.2).2.2 hm s4
  have s5:=J0 (nV (i2 r4 (m+1) l3 b3).2.1 (i2 r4 (m+1) l3 b3).2.2).2.2 s4
  have g5:=a0m s _ (cI3 (y::T) (i2 r4 (m+1) l3 b3).1 (i2 r4 (m+1) l3 b3).2.1 (i2 r4 (m+1) l3 b3).2.2).2.2 hm s5
  have hI:=L4 r4 (m+1) l3 b3
  obtain⟨z,I,hz⟩: ∃z I,(i2 r4 (m+1) l3 b3).1=z::I:=by cases hh:(i2 r4 (m+1) l3 b3).1 with|nil=>(rw[hh]at hI;simp at hI)|cons z I=>exact⟨z,I,rfl⟩
  have g6:=a3f rd hR (cI3 (y::T) (i2 r4 (m+1) l3 b3).1 (i2 r4 (m+1) l3 b3).2.1 (i2 r4 (m+1) l3 b3).2.2).1 false false ⟨by show(y::T).length<=_;omega,by show(i2 r4 (m+1) l3 b3).1.length<=_;omega,fun x hx=>by have:=bT x hx;omega⟩
  have fin:=f2e s _ _ _ _ _ _ _ _ _ _ _ _ _ _ _ _ _ _ [] _ _ _ _ g1 lp1 g2 (e7d s (y::T).length (rS (y::T)) hm m (by omega) l3 b3 s3) g3 g4 (e8 (rS (y::T)) (y::T).length (by rw[i7])) (e8 (g9 (i2 r4 (m+1) l3 b3).1) (m+1) (by rw[k8,hI])) g5 (fun _=>g6)
  refine fin.trans ?_
  have hI3:I.length=m:=by rw[hz]at hI;simpa using hI
  first|rfl|(simp only[a0h,okC,mkC,S0,cI3,hz,hI3,O2,J4,a9q,a7g,true_and,and_self,if_true,List.cons_append,List.nil_append,reduceCtorEq,if_false,and_false,List.length_cons,i7,k8];first|done|rfl)
theorem f2l(rd:List UInt8->Bool)(hR:C5 78 rd)(s:List UInt8)(hm:s.length<=1000000000):c6 Tryz.prog T1 L1 14 [.c (.d (.v (.string (B (s)))))] []=some (a0h rd (S1 s)):=by
 have g1:=a1z s s false 60 (by omega) hm (List.suffix_refl s)
 rw[a4f]at g1
 have s1:=a5c (s:=s) 60 false (List.suffix_refl s)
 have hn:=a0l 60 s false
 unfold S1
 generalize nC 60 s false=a at*
 obtain⟨n1,l1,b1⟩:=a
 simp only at g1 s1 hn⊢
 cases n1 with
 |zero=>exact f2j rd hR s hm 0 _ b1 l1 b1 s1 g1 (f0r s (ps s l1) b1 0)
 |succ m=>
  have hl:=L4 nS (m+1) l1 b1
  have hb:=a8u (m+1) l1 b1
  have lp1:=f1z s hm m (by omega) l1 b1 s1
  have hs:=P4 J6 (m+1) s l1 b1 s1
  generalize i2 nS (m+1) l1 b1=T at*
  obtain⟨T,l2,b2⟩:=T
  cases T with
  |nil=>simp at hl
  |cons y T=>
   simp only at hl hb hs lp1⊢
   rw[<-hl]at lp1 g1 hn
   exact f2k rd hR s hm _ _ b1 l2 b2 hs y T hn hb g1 lp1
theorem f2m(s:List UInt8)(hm:s.length<=1000000000)(n1:Nat)(t1:Int)(b1:Bool)(l2:List UInt8)(b2:Bool)(s2:l2<:+s)(g1:kR 36 s [.c (.d (.v (.int .i64 (60))))] 0 false (wi n1) t1 b1)(lp1:a0p s 0 (n1:Int) t1 b1=a8t s (ps s l2) b2):c6 Tryz.prog T1 L1 16 [.c (.d (.v (.string (B (s)))))] []=some (a0i (sI2 [] l2 b2)):=by
 have g2:=a1z s l2 b2 2000 (by omega) hm s2
 have s3:=a5c 2000 b2 s2
 have hn:=a0l 2000 l2 b2
 unfold sI2
 generalize nC 2000 l2 b2=a at*
 obtain⟨n2,l3,b3⟩:=a
 simp only at g2 s3 hn⊢
 cases n2 with
 |zero=>
  simp only[i2]
  have g3:=w7 s l3 b3 hm s3
  have s5:=n7 b3 s3
  have g5:=a0m s _ (sI3 [] [] l3 b3).2.2 hm s5
  have g6:=a1j (sI3 [] [] l3 b3).1 true true ⟨Nat.zero_le _,Nat.zero_le _,fun x hx=>by(cases hx),fun x hx=>by(cases hx),by have:=I7 (s:=s) (l:=l3) b3;show(nS l3 b3).1.length<=_;omega⟩
  have fin:=f2f s _ _ _ _ 0 _ _ _ _ _ false _ _ _ _ _ 0 0 _ 0 0 [] [] g1 lp1 g2 (e5u s (ps s l3) b3 0) g3 (e8 [] 0 (by rfl)) (e8 [] 0 (by rfl)) g5 (fun _=>g6)
  refine fin.trans ?_
  first|rfl|(simp only[a0i,okS,mSt,S0,sI3,a5b,a0e,a9r,a9s,true_and,and_self,if_true,List.cons_append,List.nil_append,reduceCtorEq,if_false,and_false,List.length_cons,l7,l8];first|done|rfl)
 |succ m=>
  have g3:=w7 s (i2 i4 (m+1) l3 b3).2.1 (i2 i4 (m+1) l3 b3).2.2 hm (P4 N9 (m+1) s l3 b3 s3)
  have s5:=n7 (i2 i4 (m+1) l3 b3).2.2 (P4 N9 (m+1) s l3 b3 s3)
  have g5:=a0m s _ (sI3 [] (i2 i4 (m+1) l3 b3).1 (i2 i4 (m+1) l3 b3).2.1 (i2 i4 (m+1) l3 b3).2.2).2.2 hm s5
  have hI:=L4 i4 (m+1) l3 b3
  have bI:=a5z (m+1) l3 b3
  obtain⟨z,I,hz⟩: ∃z I,(i2 i4 (m+1) l3 b3).1=z::I:=by cases hh:(i2 i4 (m+1) l3 b3).1 with|nil=>(rw[hh]at hI;simp at hI)|cons z I=>exact⟨z,I,rfl⟩
  have g6:=a1j (sI3 [] (i2 i4 (m+1) l3 b3).1 (i2 i4 (m+1) l3 b3).2.1 (i2 i4 (m+1) l3 b3).2.2).1 true false ⟨Nat.zero_le _,by show(i2 i4 (m+1) l3 b3).1.length<=_;omega,fun x hx=>by(cases hx),fun x hx=>by have:=bI x hx;omega,by have:=I7 (s:=s) (l:=(i2 i4 (m+1) l3 b3).2.1) (i2 i4 (m+1) l3 b3).2.2;show(nS (i2 i4 (m+1) l3 b3).2.1 (i2 i4 (m+1) l3 b3).2.2).1.length<=_;omega⟩
  have fin:=f2g s _ _ _ _ 0 _ _ _ _ _ false _ _ _ _ _ 0 0 _ 0 _ [] _ g1 lp1 g2 (e7e s hm m (by omega) l3 b3 s3) g3 (e8 [] 0 (by rfl)) (e8 (rC (i2 i4 (m+1) l3 b3).1) (m+1) (by rw[l8,hI])) g5 (fun _=>g6)
  refine fin.trans ?_
  have hI3:I.length=m:=by rw[hz]at hI;simpa using hI
  first|rfl|(simp only[a0i,okS,mSt,S0,sI3,hz,hI3,a5b,a0e,a9r,a9s,true_and,and_self,if_true,List.cons_append,List.nil_append,reduceCtorEq,if_false,and_false,List.length_cons,l7,l8];first|done|rfl)
theorem f2n(s:List UInt8)(hm:s.length<=1000000000)(n1:Nat)(t1:Int)(b1:Bool)(l2:List UInt8)(b2:Bool)(s2:l2<:+s)(y:v9)(T:List (v9))(hT:(y::T).length<=60)(bT: ∀x∈y::T,x.Name.length<=20000∧x.Val.length<=20000)(g1:kR 36 s [.c (.d (.v (.int .i64 (60))))] 0 false (wi n1) t1 b1)(lp1:a0p s 0 (n1:Int) t1 b1=a4q s ((y::T).length) (ps s l2) b2 (rV (y::T))):c6 Tryz.prog T1 L1 16 [.c (.d (.v (.string (B (s)))))] []=some (a0i (sI2 (y::T) l2 b2)):=by
 have g2:=a1z s l2 b2 2000 (by omega) hm s2
 have s3:=a5c 2000 b2 s2
 have hn:=a0l 2000 l2 b2
 unfold sI2
 generalize nC 2000 l2 b2=a at*
 obtain⟨n2,l3,b3⟩:=a
 simp only at g2 s3 hn⊢
 cases n2 with
 |zero=>
  simp only[i2]
  have g3:=w7 s l3 b3 hm s3
  have s5:=n7 b3 s3
  have g5:=a0m s _ (sI3 (y::T) [] l3 b3).2.2 hm s5
  have g6:=a1j (sI3 (y::T) [] l3 b3).1 false true ⟨by show(y::T).length<=_;omega,Nat.zero_le _,fun x hx=>by have:=bT x hx;omega,fun x hx=>by(cases hx),by have:=I7 (s:=s) (l:=l3) b3;show(nS l3 b3).1.length<=_;omega⟩
  have fin:=f2h s _ _ _ _ 0 _ _ _ _ _ false _ _ _ _ _ 0 0 _ _ 0 _ [] g1 lp1 g2 (e5y s (y::T).length (rV (y::T)) (ps s l3) b3 0) g3 (e8 (rV (y::T)) (y::T).length (by rw[l7])) (e8 [] 0 (by rfl)) g5 (fun _=>g6)
  refine fin.trans ?_
  first|rfl|(simp only[a0i,okS,mSt,S0,sI3,a5b,a0e,a9r,a9s,true_and,and_self,if_true,List.cons_append,List.nil_append,reduceCtorEq,if_false,and_false,List.length_cons,l7,l8];first|done|rfl)
 |succ m=>
  have g3:=w7 s (i2 i4 (m+1) l3 b3).2.1 (i2 i4 (m+1) l3 b3).2.2 hm (P4 N9 (m+1) s l3 b3 s3)
  have s5:=n7 (i2 i4 (m+1) l3 b3).2.2 (P4 N9 (m+1) s l3 b3 s3)
  have g5:=a0m s _ (sI3 (y::T) (i2 i4 (m+1) l3 b3).1 (i2 i4 (m+1) l3 b3).2.1 (i2 i4 (m+1) l3 b3).2.2).2.2 hm s5
  have hI:=L4 i4 (m+1) l3 b3
  have bI:=a5z (m+1) l3 b3
  obtain⟨z,I,hz⟩: ∃z I,(i2 i4 (m+1) l3 b3).1=z::I:=by cases hh:(i2 i4 (m+1) l3 b3).1 with|nil=>(rw[hh]at hI;simp at hI)|cons z I=>exact⟨z,I,rfl⟩
  have g6:=a1j (sI3 (y::T) (i2 i4 (m+1) l3 b3).1 (i2 i4 (m+1) l3 b3).2.1 (i2 i4 (m+1) l3 b3).2.2).1 false false ⟨by show(y::T).length<=_;omega,by show(i2 i4 (m+1) l3 b3).1.length<=_;omega,fun x hx=>by have:=bT x hx;omega,fun x hx=>by have:=bI x hx;omega,by have:=I7 (s:=s) (l:=(i2 i4 (m+1) l3 b3).2.1) (i2 i4 (m+1) l3 b3).2.2;show(nS (i2 i4 (m+1) l3 b3).2.1 (i2 i4 (m+1) l3 b3).2.2).1.length<=_;omega⟩
  have fin:=f2i s _ _ _ _ 0 _ _ _ _ _ false _ _ _ _ _ 0 0 _ _ _ _ _ g1 lp1 g2 (e7f s (y::T).length (rV (y::T)) hm m (by omega) l3 b3 s3) g3 (e8 (rV (y::T)) (y::T).length (by rw[l7])) (e8 (rC (i2 i4 (m+1) l3 b3).1) (m+1) (by rw[l8,hI])) g5 (fun _=>g6)
  refine fin.trans ?_
  have hI3:I.length=m:=by rw[hz]at hI;simpa using hI
  first|rfl|(simp only[a0i,okS,mSt,S0,sI3,hz,hI3,a5b,a0e,a9r,a9s,true_and,and_self,if_true,List.cons_append,List.nil_append,reduceCtorEq,if_false,and_false,List.length_cons,l7,l8];first|done|rfl)
theorem f2o(s:List UInt8)(hm:s.length<=1000000000):c6 Tryz.prog T1 L1 16 [.c (.d (.v (.string (B (s)))))] []=some (a0i (T9 s)):=by
 have g1:=a1z s s false 60 (by omega) hm (List.suffix_refl s)
 rw[a4f]at g1
 have s1:=a5c (s:=s) 60 false (List.suffix_refl s)
 have hn:=a0l 60 s false
 unfold T9
 generalize nC 60 s false=a at*
 obtain⟨n1,l1,b1⟩:=a
 simp only at g1 s1 hn⊢
 cases n1 with
 |zero=>exact f2m s hm 0 _ b1 l1 b1 s1 g1 (f0v s (ps s l1) b1 0)
 |succ m=>
  have hl:=L4 r5 (m+1) l1 b1
  have hb:=b1d (m+1) l1 b1
  have lp1:=f2a s hm m (by omega) l1 b1 s1
  have hs:=P4 a6p (m+1) s l1 b1 s1
  generalize i2 r5 (m+1) l1 b1=T at*
  obtain⟨T,l2,b2⟩:=T
  cases T with
  |nil=>simp at hl
  |cons y T=>
   simp only at hl hb hs lp1⊢
   rw[<-hl]at lp1 g1 hn
   exact f2n s hm _ _ b1 l2 b2 hs y T hn hb g1 lp1
end
end Go.Vsi
