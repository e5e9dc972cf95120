/- What the functions of the program, of the reference and of the law do (a part of it). -/
import Derived.Test.YtbjkeppbogdgcaaGreatZY35
namespace Go.Vsi
open Go.Proofs
noncomputable section
set_option maxRecDepth 100000
set_option maxHeartbeats 4000000
set_option linter.unusedSimpArgs false
set_option linter.unusedVariables false
attribute [local go_sem ↓] v6
theorem d6l(s:List UInt8)(t1 t2 t3 t4 t5 t6:Int)(b1 b2 b3 b4 b5 b6 q:Bool)(n1 n2 x y:Int)(o tx:List UInt8)(M N:Nat)(Q R:List (List D))(g1:kR 12 s [] 0 false (wi n1) t1 b1)(lp1:a0q s 0 n1 t1 b1=a5x s t2 b2)(g2:kR 12 s [] t2 b2 (wi n2) t3 b3)(lp2:a1m s 0 n2 t3 b3=a7s s t4 b4)(g3:kR 12 s [] t4 b4 (wi x) t5 b5)(g4:kR 12 s [] t5 b5 (wi y) t6 b6)(tQ:Q.take M=Q)(tR:R.take N=R)(g6:c6 Tryz.prog T1 L1 29 [.agg [nl,nl,zi,.d (.v (.int .i64 (x))),.d (.v (.int .i64 (y)))]] []=some (.tup [.c (.d (.v (.string (B (tx))))),.c (.d (.v (.bool (q))))],[])):c6 Tryz.prog T1 L1 9 [.c (.d (.v (.string (B (s)))))] []=some (if(!b6&&(q&&decide (tx=s)))=true then .tup [.agg [nl,nl,zi,.d (.v (.int .i64 (x))),.d (.v (.int .i64 (y)))],.c (.d (.v (.bool (true))))]else .tup [.agg [nl,nl,zi,zi,zi],.c (.d (.v (.bool (false))))],[]):=by
 have hroom:room=70368744177664:=rfl
 dsimp only[a3h,a3i,a0q,a5x,a1l,a3l,a1m,a7s,x6,u9,u4,j8,j4,j2,kR,rd,wi,ws,wb,pw,nl,zi,es]at*
 cases b6 with
 |true=>
  simp only[Bool.true_and,Bool.false_and,Bool.and_true,Bool.and_false,Bool.not_true,Bool.not_false,if_true,if_false,Bool.false_eq_true,decide_true]
  exact fn V9 Tryz.func9
 |false=>
  cases q with
  |false=>
   simp only[Bool.true_and,Bool.false_and,Bool.and_true,Bool.and_false,Bool.not_true,Bool.not_false,if_true,if_false,Bool.false_eq_true,decide_true]
   exact fn V9 Tryz.func9
  |true=>
   by_cases e:tx=s
   ·subst e
    simp only[Bool.true_and,Bool.false_and,Bool.and_true,Bool.and_false,Bool.not_true,Bool.not_false,if_true,if_false,Bool.false_eq_true,decide_true]
    exact fn V9 Tryz.func9
   ·simp only[Bool.true_and,Bool.false_and,Bool.and_true,Bool.and_false,Bool.not_true,Bool.not_false,if_true,if_false,Bool.false_eq_true,decide_eq_false e]
    exact fn V9 Tryz.func9
theorem d6m(s:List UInt8)(t1 t2 t3 t4 t5 t6:Int)(b1 b2 b3 b4 b5 b6 q:Bool)(n1 n2 x y:Int)(o tx:List UInt8)(M N:Nat)(Q R:List (List D))(g1:kR 12 s [] 0 false (wi n1) t1 b1)(lp1:a0q s 0 n1 t1 b1=a5x s t2 b2)(g2:kR 12 s [] t2 b2 (wi n2) t3 b3)(lp2:a1m s 0 n2 t3 b3=a3l s N t4 b4 R)(g3:kR 12 s [] t4 b4 (wi x) t5 b5)(g4:kR 12 s [] t5 b5 (wi y) t6 b6)(tQ:Q.take M=Q)(tR:R.take N=R)(g6:c6 Tryz.prog T1 L1 29 [.agg [nl,.d (.sl 2 R),zi,.d (.v (.int .i64 (x))),.d (.v (.int .i64 (y)))]] []=some (.tup [.c (.d (.v (.string (B (tx))))),.c (.d (.v (.bool (q))))],[])):c6 Tryz.prog T1 L1 9 [.c (.d (.v (.string (B (s)))))] []=some (if(!b6&&(q&&decide (tx=s)))=true then .tup [.agg [nl,.d (.sl 2 R),zi,.d (.v (.int .i64 (x))),.d (.v (.int .i64 (y)))],.c (.d (.v (.bool (true))))]else .tup [.agg [nl,nl,zi,zi,zi],.c (.d (.v (.bool (false))))],[]):=by
 have hroom:room=70368744177664:=rfl
 dsimp only[a3h,a3i,a0q,a5x,a1l,a3l,a1m,a7s,x6,u9,u4,j8,j4,j2,kR,rd,wi,ws,wb,pw,nl,zi,es]at*
 cases b6 with
 |true=>
  simp only[Bool.true_and,Bool.false_and,Bool.and_true,Bool.and_false,Bool.not_true,Bool.not_false,if_true,if_false,Bool.false_eq_true,decide_true]
  exact fn V9 Tryz.func9
 |false=>
  cases q with
  |false=>
   simp only[Bool.true_and,Bool.false_and,Bool.and_true,Bool.and_false,Bool.not_true,Bool.not_false,if_true,if_false,Bool.false_eq_true,decide_true]
   exact fn V9 Tryz.func9
  |true=>
   by_cases e:tx=s
   ·subst e
    simp only[Bool.true_and,Bool.false_and,Bool.and_true,Bool.and_false,Bool.not_true,Bool.not_false,if_true,if_false,Bool.false_eq_true,decide_true]
    exact fn V9 Tryz.func9
   ·simp only[Bool.true_and,Bool.false_and,Bool.and_true,Bool.and_false,Bool.not_true,Bool.not_false,if_true,if_false,Bool.false_eq_true,decide_eq_false e]
    exact fn V9 Tryz.func9
theorem d6n(s:List UInt8)(t1 t2 t3 t4 t5 t6:Int)(b1 b2 b3 b4 b5 b6 q:Bool)(n1 n2 x y:Int)(o tx:List UInt8)(M N:Nat)(Q R:List (List D))(g1:kR 12 s [] 0 false (wi n1) t1 b1)(lp1:a0q s 0 n1 t1 b1=a3i s M t2 b2 Q)(g2:kR 12 s [] t2 b2 (wi n2) t3 b3)(lp2:a1o s M Q 0 n2 t3 b3=a7t s M Q t4 b4)(g3:kR 12 s [] t4 b4 (wi x) t5 b5)(g4:kR 12 s [] t5 b5 (wi y) t6 b6)(tQ:Q.take M=Q)(tR:R.take N=R)(g6:c6 Tryz.prog T1 L1 29 [.agg [.d (.sl 1 Q),nl,zi,.d (.v (.int .i64 (x))),.d (.v (.int .i64 (y)))]] []=some (.tup [.c (.d (.v (.string (B (tx))))),.c (.d (.v (.bool (q))))],[])):c6 Tryz.prog T1 L1 9 [.c (.d (.v (.string (B (s)))))] []=some (if(!b6&&(q&&decide (tx=s)))=true then .tup [.agg [.d (.sl 1 Q),nl,zi,.d (.v (.int .i64 (x))),.d (.v (.int .i64 (y)))],.c (.d (.v (.bool (true))))]else .tup [.agg [nl,nl,zi,zi,zi],.c (.d (.v (.bool (false))))],[]):=by
 have hroom:room=70368744177664:=rfl
 dsimp only[a3h,a3i,a0q,a5x,a1n,a3m,a1o,a7t,x6,u9,u4,j8,j4,j2,kR,rd,wi,ws,wb,pw,nl,zi,es]at*
 cases b6 with
 |true=>
  simp only[Bool.true_and,Bool.false_and,Bool.and_true,Bool.and_false,Bool.not_true,Bool.not_false,if_true,if_false,Bool.false_eq_true,decide_true]
  exact fn V9 Tryz.func9
 |false=>
  cases q with
  |false=>
   simp only[Bool.true_and,Bool.false_and,Bool.and_true,Bool.and_false,Bool.not_true,Bool.not_false,if_true,if_false,Bool.false_eq_true,decide_true]
   exact fn V9 Tryz.func9
  |true=>
   by_cases e:tx=s
   ·subst e
    simp only[Bool.true_and,Bool.false_and,Bool.and_true,Bool.and_false,Bool.not_true,Bool.not_false,if_true,if_false,Bool.false_eq_true,decide_true]
    exact fn V9 Tryz.func9
   ·simp only[Bool.true_and,Bool.false_and,Bool.and_true,Bool.and_false,Bool.not_true,Bool.not_false,if_true,if_false,Bool.false_eq_true,decide_eq_false e]
    exact fn V9 Tryz.func9
theorem d6o(s:List UInt8)(t1 t2 t3 t4 t5 t6:Int)(b1 b2 b3 b4 b5 b6 q:Bool)(n1 n2 x y:Int)(o tx:List UInt8)(M N:Nat)(Q R:List (List D))(g1:kR 12 s [] 0 false (wi n1) t1 b1)(lp1:a0q s 0 n1 t1 b1=a3i s M t2 b2 Q)(g2:kR 12 s [] t2 b2 (wi n2) t3 b3)(lp2:a1o s M Q 0 n2 t3 b3=a3m s M Q N t4 b4 R)(g3:kR 12 s [] t4 b4 (wi x) t5 b5)(g4:kR 12 s [] t5 b5 (wi y) t6 b6)(tQ:Q.take M=Q)(tR:R.take N=R)(g6:c6 Tryz.prog T1 L1 29 [.agg [.d (.sl 1 Q),.d (.sl 2 R),zi,.d (.v (.int .i64 (x))),.d (.v (.int .i64 (y)))]] []=some (.tup [.c (.d (.v (.string (B (tx))))),.c (.d (.v (.bool (q))))],[])):c6 Tryz.prog T1 L1 9 [.c (.d (.v (.string (B (s)))))] []=some (if(!b6&&(q&&decide (tx=s)))=true then .tup [.agg [.d (.sl 1 Q),.d (.sl 2 R),zi,.d (.v (.int .i64 (x))),.d (.v (.int .i64 (y)))],.c (.d (.v (.bool (true))))]else .tup [.agg [nl,nl,zi,zi,zi],.c (.d (.v (.bool (false))))],[]):=by
 have hroom:room=70368744177664:=rfl
 dsimp only[a3h,a3i,a0q,a5x,a1n,a3m,a1o,a7t,x6,u9,u4,j8,j4,j2,kR,rd,wi,ws,wb,pw,nl,zi,es]at*
 cases b6 with
 |true=>
  simp only[Bool.true_and,Bool.false_and,Bool.and_true,Bool.and_false,Bool.not_true,Bool.not_false,if_true,if_false,Bool.false_eq_true,decide_true]
  exact fn V9 Tryz.func9
 |false=>
  cases q with
  |false=>
   simp only[Bool.true_and,Bool.false_and,Bool.and_true,Bool.and_false,Bool.not_true,Bool.not_false,if_true,if_false,Bool.false_eq_true,decide_true]
   exact fn V9 Tryz.func9
  |true=>
   by_cases e:tx=s
   ·subst e
    simp only[Bool.true_and,Bool.false_and,Bool.and_true,Bool.and_false,Bool.not_true,Bool.not_false,if_true,if_false,Bool.false_eq_true,decide_true]
    exact fn V9 Tryz.func9
   ·simp only[Bool.true_and,Bool.false_and,Bool.and_true,Bool.and_false,Bool.not_true,Bool.not_false,if_true,if_false,Bool.false_eq_true,decide_eq_false e]
    exact fn V9 Tryz.func9
theorem d6p(s:List UInt8)(t1 t2 t3 t4 t5 t6:Int)(b1 b2 b3 b4 b5 b6 q:Bool)(n1 n2 x y:Int)(o tx:List UInt8)(M N:Nat)(Q R:List (List D))(g1:kR 12 s [] 0 false (wi n1) t1 b1)(lp1:a0r s 0 n1 t1 b1=a5y s t2 b2)(g2:kR 12 s [] t2 b2 (wi n2) t3 b3)(lp2:a3o s 0 n2 t3 b3=b0c s t4 b4)(g3:kR 10 s [] t4 b4 (ws o) t6 b6)(tQ:Q.take M=Q)(tR:R.take N=R)(g6:c6 Tryz.prog T1 L1 31 [.agg [nl,nl,.d (.v (.string (B (o))))]] []=some (.tup [.c (.d (.v (.string (B (tx))))),.c (.d (.v (.bool (q))))],[])):c6 Tryz.prog T1 L1 11 [.c (.d (.v (.string (B (s)))))] []=some (if(!b6&&(q&&decide (tx=s)))=true then .tup [.agg [nl,nl,.d (.v (.string (B (o))))],.c (.d (.v (.bool (true))))]else .tup [.agg [nl,nl,es],.c (.d (.v (.bool (false))))],[]):=by
 have hroom:room=70368744177664:=rfl
 dsimp only[a3j,a3k,a0r,a5y,a3n,a5g,a3o,b0c,x6,u9,u4,j8,j4,j2,kR,rd,wi,ws,wb,pw,nl,zi,es]at*
 cases b6 with
 |true=>
  simp only[Bool.true_and,Bool.false_and,Bool.and_true,Bool.and_false,Bool.not_true,Bool.not_false,if_true,if_false,Bool.false_eq_true,decide_true]
  exact fn I3 Tryz.func11
 |false=>
  cases q with
  |false=>
   simp only[Bool.true_and,Bool.false_and,Bool.and_true,Bool.and_false,Bool.not_true,Bool.not_false,if_true,if_false,Bool.false_eq_true,decide_true]
   exact fn I3 Tryz.func11
  |true=>
   by_cases e:tx=s
   ·subst e
    simp only[Bool.true_and,Bool.false_and,Bool.and_true,Bool.and_false,Bool.not_true,Bool.not_false,if_true,if_false,Bool.false_eq_true,decide_true]
    exact fn I3 Tryz.func11
   ·simp only[Bool.true_and,Bool.false_and,Bool.and_true,Bool.and_false,Bool.not_true,Bool.not_false,if_true,if_false,Bool.false_eq_true,decide_eq_false e]
    exact fn I3 Tryz.func11
theorem d6q(s:List UInt8)(t1 t2 t3 t4 t5 t6:Int)(b1 b2 b3 b4 b5 b6 q:Bool)(n1 n2 x y:Int)(o tx:List UInt8)(M N:Nat)(Q R:List (List D))(g1:kR 12 s [] 0 false (wi n1) t1 b1)(lp1:a0r s 0 n1 t1 b1=a5y s t2 b2)(g2:kR 12 s [] t2 b2 (wi n2) t3 b3)(lp2:a3o s 0 n2 t3 b3=a5g s N t4 b4 R)(g3:kR 10 s [] t4 b4 (ws o) t6 b6)(tQ:Q.take M=Q)(tR:R.take N=R)(g6:c6 Tryz.prog T1 L1 31 [.agg [nl,.d (.sl 3 R),.d (.v (.string (B (o))))]] []=some (.tup [.c (.d (.v (.string (B (tx))))),.c (.d (.v (.bool (q))))],[])):c6 Tryz.prog T1 L1 11 [.c (.d (.v (.string (B (s)))))] []=some (if(!b6&&(q&&decide (tx=s)))=true then .tup [.agg [nl,.d (.sl 3 R),.d (.v (.string (B (o))))],.c (.d (.v (.bool (true))))]else .tup [.agg [nl,nl,es],.c (.d (.v (.bool (false))))],[]):=by
 have hroom:room=70368744177664:=rfl
 dsimp only[a3j,a3k,a0r,a5y,a3n,a5g,a3o,b0c,x6,u9,u4,j8,j4,j2,kR,rd,wi,ws,wb,pw,nl,zi,es]at*
 cases b6 with
 |true=>
  simp only[Bool.true_and,Bool.false_and,Bool.and_true,Bool.and_false,Bool.not_true,Bool.not_false,if_true,if_false,Bool.false_eq_true,decide_true]
  exact fn I3 Tryz.func11
 |false=>
  cases q with
  |false=>
   simp only[Bool.true_and,Bool.false_and,Bool.and_true,Bool.and_false,Bool.not_true,Bool.not_false,if_true,if_false,Bool.false_eq_true,decide_true]
   exact fn I3 Tryz.func11
  |true=>
   by_cases e:tx=s
   ·subst e
    simp only[Bool.true_and,Bool.false_and,Bool.and_true,Bool.and_false,Bool.not_true,Bool.not_false,if_true,if_false,Bool.false_eq_true,decide_true]
    exact fn I3 Tryz.func11
   ·simp only[Bool.true_and,Bool.false_and,Bool.and_true,Bool.and_false,Bool.not_true,Bool.not_false,if_true,if_false,Bool.false_eq_true,decide_eq_false e]
    exact fn I3 Tryz.func11
theorem d6r(s:List UInt8)(t1 t2 t3 t4 t5 t6:Int)(b1 b2 b3 b4 b5 b6 q:Bool)(n1 n2 x y:Int)(o tx:List UInt8)(M N:Nat)(Q R:List (List D))(g1:kR 12 s [] 0 false (wi n1) t1 b1)(lp1:a0r s 0 n1 t1 b1=a3k s M t2 b2 Q)(g2:kR 12 s [] t2 b2 (wi n2) t3 b3)(lp2:a3q s M Q 0 n2 t3 b3=b0d s M Q t4 b4)(g3:kR 10 s [] t4 b4 (ws o) t6 b6)(tQ:Q.take M=Q)(tR:R.take N=R)(g6:c6 Tryz.prog T1 L1 31 [.agg [.d (.sl 2 Q),nl,.d (.v (.string (B (o))))]] []=some (.tup [.c (.d (.v (.string (B (tx))))),.c (.d (.v (.bool (q))))],[])):c6 Tryz.prog T1 L1 11 [.c (.d (.v (.string (B (s)))))] []=some (if(!b6&&(q&&decide (tx=s)))=true then .tup [.agg [.d (.sl 2 Q),nl,.d (.v (.string (B (o))))],.c (.d (.v (.bool (true))))]else .tup [.agg [nl,nl,es],.c (.d (.v (.bool (false))))],[]):=by
 have hroom:room=70368744177664:=rfl
 dsimp only[a3j,a3k,a0r,a5y,a3p,a5h,a3q,b0d,x6,u9,u4,j8,j4,j2,kR,rd,wi,ws,wb,pw,nl,zi,es]at*
 cases b6 with
 |true=>
  simp only[Bool.true_and,Bool.false_and,Bool.and_true,Bool.and_false,Bool.not_true,Bool.not_false,if_true,if_false,Bool.false_eq_true,decide_true]
  exact fn I3 Tryz.func11
 |false=>
  cases q with
  |false=>
   simp only[Bool.true_and,Bool.false_and,Bool.and_true,Bool.and_false,Bool.not_true,Bool.not_false,if_true,if_false,Bool.false_eq_true,decide_true]
   exact fn I3 Tryz.func11
  |true=>
   by_cases e:tx=s
   ·subst e
    simp only[Bool.true_and,Bool.false_and,Bool.and_true,Bool.and_false,Bool.not_true,Bool.not_false,if_true,if_false,Bool.false_eq_true,decide_true]
    exact fn I3 Tryz.func11
   ·simp only[Bool.true_and,Bool.false_and,Bool.and_true,Bool.and_false,Bool.not_true,Bool.not_false,if_true,if_false,Bool.false_eq_true,decide_eq_false e]
    exact fn I3 Tryz.func11
theorem d6s(s:List UInt8)(t1 t2 t3 t4 t5 t6:Int)(b1 b2 b3 b4 b5 b6 q:Bool)(n1 n2 x y:Int)(o tx:List UInt8)(M N:Nat)(Q R:List (List D))(g1:kR 12 s [] 0 false (wi n1) t1 b1)(lp1:a0r s 0 n1 t1 b1=a3k s M t2 b2 Q)(g2:kR 12 s [] t2 b2 (wi n2) t3 b3)(lp2:a3q s M Q 0 n2 t3 b3=a5h s M Q N t4 b4 R)(g3:kR 10 s [] t4 b4 (ws o) t6 b6)(tQ:Q.take M=Q)(tR:R.take N=R)(g6:c6 Tryz.prog T1 L1 31 [.agg [.d (.sl 2 Q),.d (.sl 3 R),.d (.v (.string (B (o))))]] []=some (.tup [.c (.d (.v (.string (B (tx))))),.c (.d (.v (.bool (q))))],[])):c6 Tryz.prog T1 L1 11 [.c (.d (.v (.string (B (s)))))] []=some (if(!b6&&(q&&decide (tx=s)))=true then .tup [.agg [.d (.sl 2 Q),.d (.sl 3 R),.d (.v (.string (B (o))))],.c (.d (.v (.bool (true))))]else .tup [.agg [nl,nl,es],.c (.d (.v (.bool (false))))],[]):=by
 have hroom:room=70368744177664:=rfl
 dsimp only[a3j,a3k,a0r,a5y,a3p,a5h,a3q,b0d,x6,u9,u4,j8,j4,j2,kR,rd,wi,ws,wb,pw,nl,zi,es]at*
 cases b6 with
 |true=>
  simp only[Bool.true_and,Bool.false_and,Bool.and_true,Bool.and_false,Bool.not_true,Bool.not_false,if_true,if_false,Bool.false_eq_true,decide_true]
  exact fn I3 Tryz.func11
 |false=>
  cases q with
  |false=>
   simp only[Bool.true_and,Bool.false_and,Bool.and_true,Bool.and_false,Bool.not_true,Bool.not_false,if_true,if_false,Bool.false_eq_true,decide_true]
   exact fn I3 Tryz.func11
  |true=>
   by_cases e:tx=s
   ·subst e
    simp only[Bool.true_and,Bool.false_and,Bool.and_true,Bool.and_false,Bool.not_true,Bool.not_false,if_true,if_false,Bool.false_eq_true,decide_true]
    exact fn I3 Tryz.func11
   ·simp only[Bool.true_and,Bool.false_and,Bool.and_true,Bool.and_false,Bool.not_true,Bool.not_false,if_true,if_false,Bool.false_eq_true,decide_eq_false e]
    exact fn I3 Tryz.func11
end
end Go.Vsi
