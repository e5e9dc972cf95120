/- What the functions of the program, of the reference and of the law do (a part of it). -/
import Derived.Test.YtbjkeppbogdgcaaGreatZY35
namespace Go.Vsi
open Go.Proofs
noncomputable section
set_option maxRecDepth 100000
set_option maxHeartbeats 4000000
set_option linter.unusedSimpArgs false
set_option linter.unusedVariables false
attribute [local go_sem ↓] v6
theorem c8t(s:List UInt8)(t1 t2 t3 t4 t5 t6:Int)(b1 b2 b3 b4 b5 b6 g k1 k2:Bool)(n1 n2:Int)(u w tx:List UInt8)(M N:Nat)(Q R:List (List D))(d1 d2 d3 d4 d5 d6 d7 d8:D)(g1:kR 10 s [] 0 false (ws u) t1 b1)(g2:kR 10 s [] t1 b1 (ws w) t2 b2)(r1:c6 Tryz.prog T1 L1 9 [.c (.d (.v (.string (B (u)))))] []=some (.tup [.agg [.d d1,.d d2,.d d3,.d d4,.d d5],.c (.d (.v (.bool (k1))))],[]))(r2:c6 Tryz.prog T1 L1 11 [.c (.d (.v (.string (B (w)))))] []=some (.tup [.agg [.d d6,.d d7,.d d8],.c (.d (.v (.bool (k2))))],[]))(g3:kR 12 s [] t2 b2 (wi n1) t3 b3)(lp1:G6 s d1 d2 d3 d4 d5 d6 d7 d8 k1 k2 0 n1 t3 b3=O8 s d1 d2 d3 d4 d5 d6 d7 d8 k1 k2 t4 b4)(g4:kR 12 s [] t4 b4 (wi n2) t5 b5)(lp2:N0 s d1 d2 d3 d4 d5 d6 d7 d8 k1 k2 0 n2 t5 b5=a0t s d1 d2 d3 d4 d5 d6 d7 d8 k1 k2 t6 b6)(tQ:Q.take M=Q)(tR:R.take N=R)(g6:c6 Tryz.prog T1 L1 13 [.agg [.d d1,.d d2,.d d3,.d d4,.d d5,.d d6,.d d7,.d d8,nl,nl]] []=some (.tup [.c (.d (.v (.string (B (tx))))),.c (.d (.v (.bool (g))))],[]))(hz:(!b6&&k1)=false):c6 Tryz.prog T1 L1 4 [.c (.d (.v (.string (B (s)))))] []=some (.tup [.agg [nl,nl,zi,zi,zi,nl,nl,es,nl,nl],.c (.d (.v (.bool (false))))],[]):=by
 have hroom:room=70368744177664:=rfl
 dsimp only[V2,M9,G6,O8,a0s,W0,N0,a0t,x6,u9,u4,j8,j4,j2,kR,rd,wi,ws,wb,pw,nl,zi,es]at*
 cases b6 with
 |true=>
  clear hz
  exact fn V4 Tryz.func4
 |false=>
  cases k1 with
  |true=>exact absurd hz (by simp)
  |false=>
   clear hz
   exact fn V4 Tryz.func4
theorem c8u(s:List UInt8)(t1 t2 t3 t4 t5 t6:Int)(b1 b2 b3 b4 b5 g k2:Bool)(n1 n2:Int)(u w tx:List UInt8)(M N:Nat)(Q R:List (List D))(d1 d2 d3 d4 d5 d6 d7 d8:D)(g1:kR 10 s [] 0 false (ws u) t1 b1)(g2:kR 10 s [] t1 b1 (ws w) t2 b2)(r1:c6 Tryz.prog T1 L1 9 [.c (.d (.v (.string (B (u)))))] []=some (.tup [.agg [.d d1,.d d2,.d d3,.d d4,.d d5],.c (.d (.v (.bool (true))))],[]))(r2:c6 Tryz.prog T1 L1 11 [.c (.d (.v (.string (B (w)))))] []=some (.tup [.agg [.d d6,.d d7,.d d8],.c (.d (.v (.bool (k2))))],[]))(g3:kR 12 s [] t2 b2 (wi n1) t3 b3)(lp1:G6 s d1 d2 d3 d4 d5 d6 d7 d8 true k2 0 n1 t3 b3=O8 s d1 d2 d3 d4 d5 d6 d7 d8 true k2 t4 b4)(g4:kR 12 s [] t4 b4 (wi n2) t5 b5)(lp2:N0 s d1 d2 d3 d4 d5 d6 d7 d8 true k2 0 n2 t5 b5=a0t s d1 d2 d3 d4 d5 d6 d7 d8 true k2 t6 false)(tQ:Q.take M=Q)(tR:R.take N=R)(g6:c6 Tryz.prog T1 L1 13 [.agg [.d d1,.d d2,.d d3,.d d4,.d d5,.d d6,.d d7,.d d8,nl,nl]] []=some (.tup [.c (.d (.v (.string (B (tx))))),.c (.d (.v (.bool (g))))],[]))(hz:(k2&&g)=false):c6 Tryz.prog T1 L1 4 [.c (.d (.v (.string (B (s)))))] []=some (.tup [.agg [nl,nl,zi,zi,zi,nl,nl,es,nl,nl],.c (.d (.v (.bool (false))))],[]):=by
 have hroom:room=70368744177664:=rfl
 dsimp only[V2,M9,G6,O8,a0s,W0,N0,a0t,x6,u9,u4,j8,j4,j2,kR,rd,wi,ws,wb,pw,nl,zi,es]at*
 cases k2 with
 |false=>
  clear hz
  exact fn V4 Tryz.func4
 |true=>
  cases g with
  |true=>exact absurd hz (by simp)
  |false=>
   clear hz
   exact fn V4 Tryz.func4
theorem e7g(s:List UInt8)(t1 t2 t3 t4 t5 t6:Int)(b1 b2 b3 b4 b5:Bool)(n1 n2:Int)(u w tx:List UInt8)(M N:Nat)(Q R:List (List D))(d1 d2 d3 d4 d5 d6 d7 d8:D)(g1:kR 10 s [] 0 false (ws u) t1 b1)(g2:kR 10 s [] t1 b1 (ws w) t2 b2)(r1:c6 Tryz.prog T1 L1 9 [.c (.d (.v (.string (B (u)))))] []=some (.tup [.agg [.d d1,.d d2,.d d3,.d d4,.d d5],.c (.d (.v (.bool (true))))],[]))(r2:c6 Tryz.prog T1 L1 11 [.c (.d (.v (.string (B (w)))))] []=some (.tup [.agg [.d d6,.d d7,.d d8],.c (.d (.v (.bool (true))))],[]))(g3:kR 12 s [] t2 b2 (wi n1) t3 b3)(lp1:G6 s d1 d2 d3 d4 d5 d6 d7 d8 true true 0 n1 t3 b3=O8 s d1 d2 d3 d4 d5 d6 d7 d8 true true t4 b4)(g4:kR 12 s [] t4 b4 (wi n2) t5 b5)(lp2:N0 s d1 d2 d3 d4 d5 d6 d7 d8 true true 0 n2 t5 b5=a0t s d1 d2 d3 d4 d5 d6 d7 d8 true true t6 false)(tQ:Q.take M=Q)(tR:R.take N=R)(g6:c6 Tryz.prog T1 L1 13 [.agg [.d d1,.d d2,.d d3,.d d4,.d d5,.d d6,.d d7,.d d8,nl,nl]] []=some (.tup [.c (.d (.v (.string (B (tx))))),.c (.d (.v (.bool (true))))],[])):c6 Tryz.prog T1 L1 4 [.c (.d (.v (.string (B (s)))))] []=some (if decide (tx=s)=true then .tup [.agg [.d d1,.d d2,.d d3,.d d4,.d d5,.d d6,.d d7,.d d8,nl,nl],.c (.d (.v (.bool (true))))]else .tup [.agg [nl,nl,zi,zi,zi,nl,nl,es,nl,nl],.c (.d (.v (.bool (false))))],[]):=by
 have hroom:room=70368744177664:=rfl
 dsimp only[V2,M9,G6,O8,a0s,W0,N0,a0t,x6,u9,u4,j8,j4,j2,kR,rd,wi,ws,wb,pw,nl,zi,es]at*
 by_cases e:tx=s
 ·subst e
  simp only[Bool.true_and,Bool.false_and,Bool.and_true,Bool.and_false,Bool.not_true,Bool.not_false,if_true,if_false,Bool.false_eq_true,decide_true]
  exact fn V4 Tryz.func4
 ·simp only[Bool.true_and,Bool.false_and,Bool.and_true,Bool.and_false,Bool.not_true,Bool.not_false,if_true,if_false,Bool.false_eq_true,decide_eq_false e]
  exact fn V4 Tryz.func4
theorem c8v(s:List UInt8)(t1 t2 t3 t4 t5 t6:Int)(b1 b2 b3 b4 b5 b6 g k1 k2:Bool)(n1 n2:Int)(u w tx:List UInt8)(M N:Nat)(Q R:List (List D))(d1 d2 d3 d4 d5 d6 d7 d8:D)(g1:kR 10 s [] 0 false (ws u) t1 b1)(g2:kR 10 s [] t1 b1 (ws w) t2 b2)(r1:c6 Tryz.prog T1 L1 9 [.c (.d (.v (.string (B (u)))))] []=some (.tup [.agg [.d d1,.d d2,.d d3,.d d4,.d d5],.c (.d (.v (.bool (k1))))],[]))(r2:c6 Tryz.prog T1 L1 11 [.c (.d (.v (.string (B (w)))))] []=some (.tup [.agg [.d d6,.d d7,.d d8],.c (.d (.v (.bool (k2))))],[]))(g3:kR 12 s [] t2 b2 (wi n1) t3 b3)(lp1:G6 s d1 d2 d3 d4 d5 d6 d7 d8 k1 k2 0 n1 t3 b3=O8 s d1 d2 d3 d4 d5 d6 d7 d8 k1 k2 t4 b4)(g4:kR 12 s [] t4 b4 (wi n2) t5 b5)(lp2:N0 s d1 d2 d3 d4 d5 d6 d7 d8 k1 k2 0 n2 t5 b5=W0 s d1 d2 d3 d4 d5 d6 d7 d8 k1 k2 N t6 b6 R)(tQ:Q.take M=Q)(tR:R.take N=R)(g6:c6 Tryz.prog T1 L1 13 [.agg [.d d1,.d d2,.d d3,.d d4,.d d5,.d d6,.d d7,.d d8,nl,.d (.sl 1 R)]] []=some (.tup [.c (.d (.v (.string (B (tx))))),.c (.d (.v (.bool (g))))],[]))(hz:(!b6&&k1)=false):c6 Tryz.prog T1 L1 4 [.c (.d (.v (.string (B (s)))))] []=some (.tup [.agg [nl,nl,zi,zi,zi,nl,nl,es,nl,nl],.c (.d (.v (.bool (false))))],[]):=by
 have hroom:room=70368744177664:=rfl
 dsimp only[V2,M9,G6,O8,a0s,W0,N0,a0t,x6,u9,u4,j8,j4,j2,kR,rd,wi,ws,wb,pw,nl,zi,es]at*
 cases b6 with
 |true=>
  clear hz
  exact fn V4 Tryz.func4
 |false=>
  cases k1 with
  |true=>exact absurd hz (by simp)
  |false=>
   clear hz
   exact fn V4 Tryz.func4
theorem c8w(s:List UInt8)(t1 t2 t3 t4 t5 t6:Int)(b1 b2 b3 b4 b5 g k2:Bool)(n1 n2:Int)(u w tx:List UInt8)(M N:Nat)(Q R:List (List D))(d1 d2 d3 d4 d5 d6 d7 d8:D)(g1:kR 10 s [] 0 false (ws u) t1 b1)(g2:kR 10 s [] t1 b1 (ws w) t2 b2)(r1:c6 Tryz.prog T1 L1 9 [.c (.d (.v (.string (B (u)))))] []=some (.tup [.agg [.d d1,.d d2,.d d3,.d d4,.d d5],.c (.d (.v (.bool (true))))],[]))(r2:c6 Tryz.prog T1 L1 11 [.c (.d (.v (.string (B (w)))))] []=some (.tup [.agg [.d d6,.d d7,.d d8],.c (.d (.v (.bool (k2))))],[]))(g3:kR 12 s [] t2 b2 (wi n1) t3 b3)(lp1:G6 s d1 d2 d3 d4 d5 d6 d7 d8 true k2 0 n1 t3 b3=O8 s d1 d2 d3 d4 d5 d6 d7 d8 true k2 t4 b4)(g4:kR 12 s [] t4 b4 (wi n2) t5 b5)(lp2:N0 s d1 d2 d3 d4 d5 d6 d7 d8 true k2 0 n2 t5 b5=W0 s d1 d2 d3 d4 d5 d6 d7 d8 true k2 N t6 false R)(tQ:Q.take M=Q)(tR:R.take N=R)(g6:c6 Tryz.prog T1 L1 13 [.agg [.d d1,.d d2,.d d3,.d d4,.d d5,.d d6,.d d7,.d d8,nl,.d (.sl 1 R)]] []=some (.tup [.c (.d (.v (.string (B (tx))))),.c (.d (.v (.bool (g))))],[]))(hz:(k2&&g)=false):c6 Tryz.prog T1 L1 4 [.c (.d (.v (.string (B (s)))))] []=some (.tup [.agg [nl,nl,zi,zi,zi,nl,nl,es,nl,nl],.c (.d (.v (.bool (false))))],[]):=by
 have hroom:room=70368744177664:=rfl
 dsimp only[V2,M9,G6,O8,a0s,W0,N0,a0t,x6,u9,u4,j8,j4,j2,kR,rd,wi,ws,wb,pw,nl,zi,es]at*
 cases k2 with
 |false=>
  clear hz
  exact fn V4 Tryz.func4
 |true=>
  cases g with
  |true=>exact absurd hz (by simp)
  |false=>
   clear hz
   exact fn V4 Tryz.func4
theorem e7h(s:List UInt8)(t1 t2 t3 t4 t5 t6:Int)(b1 b2 b3 b4 b5:Bool)(n1 n2:Int)(u w tx:List UInt8)(M N:Nat)(Q R:List (List D))(d1 d2 d3 d4 d5 d6 d7 d8:D)(g1:kR 10 s [] 0 false (ws u) t1 b1)(g2:kR 10 s [] t1 b1 (ws w) t2 b2)(r1:c6 Tryz.prog T1 L1 9 [.c (.d (.v (.string (B (u)))))] []=some (.tup [.agg [.d d1,.d d2,.d d3,.d d4,.d d5],.c (.d (.v (.bool (true))))],[]))(r2:c6 Tryz.prog T1 L1 11 [.c (.d (.v (.string (B (w)))))] []=some (.tup [.agg [.d d6,.d d7,.d d8],.c (.d (.v (.bool (true))))],[]))(g3:kR 12 s [] t2 b2 (wi n1) t3 b3)(lp1:G6 s d1 d2 d3 d4 d5 d6 d7 d8 true true 0 n1 t3 b3=O8 s d1 d2 d3 d4 d5 d6 d7 d8 true true t4 b4)(g4:kR 12 s [] t4 b4 (wi n2) t5 b5)(lp2:N0 s d1 d2 d3 d4 d5 d6 d7 d8 true true 0 n2 t5 b5=W0 s d1 d2 d3 d4 d5 d6 d7 d8 true true N t6 false R)(tQ:Q.take M=Q)(tR:R.take N=R)(g6:c6 Tryz.prog T1 L1 13 [.agg [.d d1,.d d2,.d d3,.d d4,.d d5,.d d6,.d d7,.d d8,nl,.d (.sl 1 R)]] []=some (.tup [.c (.d (.v (.string (B (tx))))),.c (.d (.v (.bool (true))))],[])):c6 Tryz.prog T1 L1 4 [.c (.d (.v (.string (B (s)))))] []=some (if decide (tx=s)=true then .tup [.agg [.d d1,.d d2,.d d3,.d d4,.d d5,.d d6,.d d7,.d d8,nl,.d (.sl 1 R)],.c (.d (.v (.bool (true))))]else .tup [.agg [nl,nl,zi,zi,zi,nl,nl,es,nl,nl],.c (.d (.v (.bool (false))))],[]):=by
 have hroom:room=70368744177664:=rfl
 dsimp only[V2,M9,G6,O8,a0s,W0,N0,a0t,x6,u9,u4,j8,j4,j2,kR,rd,wi,ws,wb,pw,nl,zi,es]at*
 by_cases e:tx=s
 ·subst e
  simp only[Bool.true_and,Bool.false_and,Bool.and_true,Bool.and_false,Bool.not_true,Bool.not_false,if_true,if_false,Bool.false_eq_true,decide_true]
  exact fn V4 Tryz.func4
 ·simp only[Bool.true_and,Bool.false_and,Bool.and_true,Bool.and_false,Bool.not_true,Bool.not_false,if_true,if_false,Bool.false_eq_true,decide_eq_false e]
  exact fn V4 Tryz.func4
theorem c8x(s:List UInt8)(t1 t2 t3 t4 t5 t6:Int)(b1 b2 b3 b4 b5 b6 g k1 k2:Bool)(n1 n2:Int)(u w tx:List UInt8)(M N:Nat)(Q R:List (List D))(d1 d2 d3 d4 d5 d6 d7 d8:D)(g1:kR 10 s [] 0 false (ws u) t1 b1)(g2:kR 10 s [] t1 b1 (ws w) t2 b2)(r1:c6 Tryz.prog T1 L1 9 [.c (.d (.v (.string (B (u)))))] []=some (.tup [.agg [.d d1,.d d2,.d d3,.d d4,.d d5],.c (.d (.v (.bool (k1))))],[]))(r2:c6 Tryz.prog T1 L1 11 [.c (.d (.v (.string (B (w)))))] []=some (.tup [.agg [.d d6,.d d7,.d d8],.c (.d (.v (.bool (k2))))],[]))(g3:kR 12 s [] t2 b2 (wi n1) t3 b3)(lp1:G6 s d1 d2 d3 d4 d5 d6 d7 d8 k1 k2 0 n1 t3 b3=M9 s d1 d2 d3 d4 d5 d6 d7 d8 k1 k2 M t4 b4 Q)(g4:kR 12 s [] t4 b4 (wi n2) t5 b5)(lp2:N1 s d1 d2 d3 d4 d5 d6 d7 d8 k1 k2 M Q 0 n2 t5 b5=a0v s d1 d2 d3 d4 d5 d6 d7 d8 k1 k2 M Q t6 b6)(tQ:Q.take M=Q)(tR:R.take N=R)(g6:c6 Tryz.prog T1 L1 13 [.agg [.d d1,.d d2,.d d3,.d d4,.d d5,.d d6,.d d7,.d d8,.d (.sl 1 Q),nl]] []=some (.tup [.c (.d (.v (.string (B (tx))))),.c (.d (.v (.bool (g))))],[]))(hz:(!b6&&k1)=false):c6 Tryz.prog T1 L1 4 [.c (.d (.v (.string (B (s)))))] []=some (.tup [.agg [nl,nl,zi,zi,zi,nl,nl,es,nl,nl],.c (.d (.v (.bool (false))))],[]):=by
 have hroom:room=70368744177664:=rfl
 dsimp only[V2,M9,G6,O8,a0u,W1,N1,a0v,x6,u9,u4,j8,j4,j2,kR,rd,wi,ws,wb,pw,nl,zi,es]at*
 cases b6 with
 |true=>
  clear hz
  exact fn V4 Tryz.func4
 |false=>
  cases k1 with
  |true=>exact absurd hz (by simp)
  |false=>
   clear hz
   exact fn V4 Tryz.func4
theorem c8y(s:List UInt8)(t1 t2 t3 t4 t5 t6:Int)(b1 b2 b3 b4 b5 g k2:Bool)(n1 n2:Int)(u w tx:List UInt8)(M N:Nat)(Q R:List (List D))(d1 d2 d3 d4 d5 d6 d7 d8:D)(g1:kR 10 s [] 0 false (ws u) t1 b1)(g2:kR 10 s [] t1 b1 (ws w) t2 b2)(r1:c6 Tryz.prog T1 L1 9 [.c (.d (.v (.string (B (u)))))] []=some (.tup [.agg [.d d1,.d d2,.d d3,.d d4,.d d5],.c (.d (.v (.bool (true))))],[]))(r2:c6 Tryz.prog T1 L1 11 [.c (.d (.v (.string (B (w)))))] []=some (.tup [.agg [.d d6,.d d7,.d d8],.c (.d (.v (.bool (k2))))],[]))(g3:kR 12 s [] t2 b2 (wi n1) t3 b3)(lp1:G6 s d1 d2 d3 d4 d5 d6 d7 d8 true k2 0 n1 t3 b3=M9 s d1 d2 d3 d4 d5 d6 d7 d8 true k2 M t4 b4 Q)(g4:kR 12 s [] t4 b4 (wi n2) t5 b5)(lp2:N1 s d1 d2 d3 d4 d5 d6 d7 d8 true k2 M Q 0 n2 t5 b5=a0v s d1 d2 d3 d4 d5 d6 d7 d8 true k2 M Q t6 false)(tQ:Q.take M=Q)(tR:R.take N=R)(g6:c6 Tryz.prog T1 L1 13 [.agg [.d d1,.d d2,.d d3,.d d4,.d d5,.d d6,.d d7,.d d8,.d (.sl 1 Q),nl]] []=some (.tup [.c (.d (.v (.string (B (tx))))),.c (.d (.v (.bool (g))))],[]))(hz:(k2&&g)=false):c6 Tryz.prog T1 L1 4 [.c (.d (.v (.string (B (s)))))] []=some (.tup [.agg [nl,nl,zi,zi,zi,nl,nl,es,nl,nl],.c (.d (.v (.bool (false))))],[]):=by
 have hroom:room=70368744177664:=rfl
 dsimp only[V2,M9,G6,O8,a0u,W1,N1,a0v,x6,u9,u4,j8,j4,j2,kR,rd,wi,ws,wb,pw,nl,zi,es]at*
 cases k2 with
 |false=>
  clear hz
  exact fn V4 Tryz.func4
 |true=>
  cases g with
  |true=>exact absurd hz (by simp)
  |false=>
   clear hz
   exact fn V4 Tryz.func4
theorem e7i(s:List UInt8)(t1 t2 t3 t4 t5 t6:Int)(b1 b2 b3 b4 b5:Bool)(n1 n2:Int)(u w tx:List UInt8)(M N:Nat)(Q R:List (List D))(d1 d2 d3 d4 d5 d6 d7 d8:D)(g1:kR 10 s [] 0 false (ws u) t1 b1)(g2:kR 10 s [] t1 b1 (ws w) t2 b2)(r1:c6 Tryz.prog T1 L1 9 [.c (.d (.v (.string (B (u)))))] []=some (.tup [.agg [.d d1,.d d2,.d d3,.d d4,.d d5],.c (.d (.v (.bool (true))))],[]))(r2:c6 Tryz.prog T1 L1 11 [.c (.d (.v (.string (B (w)))))] []=some (.tup [.agg [.d d6,.d d7,.d d8],.c (.d (.v (.bool (true))))],[]))(g3:kR 12 s [] t2 b2 (wi n1) t3 b3)(lp1:G6 s d1 d2 d3 d4 d5 d6 d7 d8 true true 0 n1 t3 b3=M9 s d1 d2 d3 d4 d5 d6 d7 d8 true true M t4 b4 Q)(g4:kR 12 s [] t4 b4 (wi n2) t5 b5)(lp2:N1 s d1 d2 d3 d4 d5 d6 d7 d8 true true M Q 0 n2 t5 b5=a0v s d1 d2 d3 d4 d5 d6 d7 d8 true true M Q t6 false)(tQ:Q.take M=Q)(tR:R.take N=R)(g6:c6 Tryz.prog T1 L1 13 [.agg [.d d1,.d d2,.d d3,.d d4,.d d5,.d d6,.d d7,.d d8,.d (.sl 1 Q),nl]] []=some (.tup [.c (.d (.v (.string (B (tx))))),.c (.d (.v (.bool (true))))],[])):c6 Tryz.prog T1 L1 4 [.c (.d (.v (.string (B (s)))))] []=some (if decide (tx=s)=true then .tup [.agg [.d d1,.d d2,.d d3,.d d4,.d d5,.d d6,.d d7,.d d8,.d (.sl 1 Q),nl],.c (.d (.v (.bool (true))))]else .tup [.agg [nl,nl,zi,zi,zi,nl,nl,es,nl,nl],.c (.d (.v (.bool (false))))],[]):=by
 have hroom:room=70368744177664:=rfl
 dsimp only[V2,M9,G6,O8,a0u,W1,N1,a0v,x6,u9,u4,j8,j4,j2,kR,rd,wi,ws,wb,pw,nl,zi,es]at*
 by_cases e:tx=s
 ·subst e
  simp only[Bool.true_and,Bool.false_and,Bool.and_true,Bool.and_false,Bool.not_true,Bool.not_false,if_true,if_false,Bool.false_eq_true,decide_true]
  exact fn V4 Tryz.func4
 ·simp only[Bool.true_and,Bool.false_and,Bool.and_true,Bool.and_false,Bool.not_true,Bool.not_false,if_true,if_false,Bool.false_eq_true,decide_eq_false e]
  exact fn V4 Tryz.func4
theorem c8z(s:List UInt8)(t1 t2 t3 t4 t5 t6:Int)(b1 b2 b3 b4 b5 b6 g k1 k2:Bool)(n1 n2:Int)(u w tx:List UInt8)(M N:Nat)(Q R:List (List D))(d1 d2 d3 d4 d5 d6 d7 d8:D)(g1:kR 10 s [] 0 false (ws u) t1 b1)(g2:kR 10 s [] t1 b1 (ws w) t2 b2)(r1:c6 Tryz.prog T1 L1 9 [.c (.d (.v (.string (B (u)))))] []=some (.tup [.agg [.d d1,.d d2,.d d3,.d d4,.d d5],.c (.d (.v (.bool (k1))))],[]))(r2:c6 Tryz.prog T1 L1 11 [.c (.d (.v (.string (B (w)))))] []=some (.tup [.agg [.d d6,.d d7,.d d8],.c (.d (.v (.bool (k2))))],[]))(g3:kR 12 s [] t2 b2 (wi n1) t3 b3)(lp1:G6 s d1 d2 d3 d4 d5 d6 d7 d8 k1 k2 0 n1 t3 b3=M9 s d1 d2 d3 d4 d5 d6 d7 d8 k1 k2 M t4 b4 Q)(g4:kR 12 s [] t4 b4 (wi n2) t5 b5)(lp2:N1 s d1 d2 d3 d4 d5 d6 d7 d8 k1 k2 M Q 0 n2 t5 b5=W1 s d1 d2 d3 d4 d5 d6 d7 d8 k1 k2 M Q N t6 b6 R)(tQ:Q.take M=Q)(tR:R.take N=R)(g6:c6 Tryz.prog T1 L1 13 [.agg [.d d1,.d d2,.d d3,.d d4,.d d5,.d d6,.d d7,.d d8,.d (.sl 1 Q),.d (.sl 1 R)]] []=some (.tup [.c (.d (.v (.string (B (tx))))),.c (.d (.v (.bool (g))))],[]))(hz:(!b6&&k1)=false):c6 Tryz.prog T1 L1 4 [.c (.d (.v (.string (B (s)))))] []=some (.tup [.agg [nl,nl,zi,zi,zi,nl,nl,es,nl,nl],.c (.d (.v (.bool (false))))],[]):=by
 have hroom:room=70368744177664:=rfl
 dsimp only[V2,M9,G6,O8,a0u,W1,N1,a0v,x6,u9,u4,j8,j4,j2,kR,rd,wi,ws,wb,pw,nl,zi,es]at*
 cases b6 with
 |true=>
  clear hz
  exact fn V4 Tryz.func4
 |false=>
  cases k1 with
  |true=>exact absurd hz (by simp)
  |false=>
   clear hz
   exact fn V4 Tryz.func4
theorem c9a(s:List UInt8)(t1 t2 t3 t4 t5 t6:Int)(b1 b2 b3 b4 b5 g k2:Bool)(n1 n2:Int)(u w tx:List UInt8)(M N:Nat)(Q R:List (List D))(d1 d2 d3 d4 d5 d6 d7 d8:D)(g1:kR 10 s [] 0 false (ws u) t1 b1)(g2:kR 10 s [] t1 b1 (ws w) t2 b2)(r1:c6 Tryz.prog T1 L1 9 [.c (.d (.v (.string (B (u)))))] []=some (.tup [.agg [.d d1,.d d2,.d d3,.d d4,.d d5],.c (.d (.v (.bool (true))))],[]))(r2:c6 Tryz.prog T1 L1 11 [.c (.d (.v (.string (B (w)))))] []=some (.tup [.agg [.d d6,.d d7,.d d8],.c (.d (.v (.bool (k2))))],[]))(g3:kR 12 s [] t2 b2 (wi n1) t3 b3)(lp1:G6 s d1 d2 d3 d4 d5 d6 d7 d8 true k2 0 n1 t3 b3=M9 s d1 d2 d3 d4 d5 d6 d7 d8 true k2 M t4 b4 Q)(g4:kR 12 s [] t4 b4 (wi n2) t5 b5)(lp2:N1 s d1 d2 d3 d4 d5 d6 d7 d8 true k2 M Q 0 n2 t5 b5=W1 s d1 d2 d3 d4 d5 d6 d7 d8 true k2 M Q N t6 false R)(tQ:Q.take M=Q)(tR:R.take N=R)(g6:c6 Tryz.prog T1 L1 13 [.agg [.d d1,.d d2,.d d3,.d d4,.d d5,.d d6,.d d7,.d d8,.d (.sl 1 Q),.d (.sl 1 R)]] []=some (.tup [.c (.d (.v (.string (B (tx))))),.c (.d (.v (.bool (g))))],[]))(hz:(k2&&g)=false):c6 Tryz.prog T1 L1 4 [.c (.d (.v (.string (B (s)))))] []=some (.tup [.agg [nl,nl,zi,zi,zi,nl,nl,es,nl,nl],.c (.d (.v (.bool (false))))],[]):=by
 have hroom:room=70368744177664:=rfl
 dsimp only[V2,M9,G6,O8,a0u,W1,N1,a0v,x6,u9,u4,j8,j4,j2,kR,rd,wi,ws,wb,pw,nl,zi,es]at*
 cases k2 with
 |false=>
  clear hz
  exact fn V4 Tryz.func4
 |true=>
  cases g with
  |true=>exact absurd hz (by simp)
  |false=>
   clear hz
   exact fn V4 Tryz.func4
theorem e7j(s:List UInt8)(t1 t2 t3 t4 t5 t6:Int)(b1 b2 b3 b4 b5:Bool)(n1 n2:Int)(u w tx:List UInt8)(M N:Nat)(Q R:List (List D))(d1 d2 d3 d4 d5 d6 d7 d8:D)(g1:kR 10 s [] 0 false (ws u) t1 b1)(g2:kR 10 s [] t1 b1 (ws w) t2 b2)(r1:c6 Tryz.prog T1 L1 9 [.c (.d (.v (.string (B (u)))))] []=some (.tup [.agg [.d d1,.d d2,.d d3,.d d4,.d d5],.c (.d (.v (.bool (true))))],[]))(r2:c6 Tryz.prog T1 L1 11 [.c (.d (.v (.string (B (w)))))] []=some (.tup [.agg [.d d6,.d d7,.d d8],.c (.d (.v (.bool (true))))],[]))(g3:kR 12 s [] t2 b2 (wi n1) t3 b3)(lp1:G6 s d1 d2 d3 d4 d5 d6 d7 d8 true true 0 n1 t3 b3=M9 s d1 d2 d3 d4 d5 d6 d7 d8 true true M t4 b4 Q)(g4:kR 12 s [] t4 b4 (wi n2) t5 b5)(lp2:N1 s d1 d2 d3 d4 d5 d6 d7 d8 true true M Q 0 n2 t5 b5=W1 s d1 d2 d3 d4 d5 d6 d7 d8 true true M Q N t6 false R)(tQ:Q.take M=Q)(tR:R.take N=R)(g6:c6 Tryz.prog T1 L1 13 [.agg [.d d1,.d d2,.d d3,.d d4,.d d5,.d d6,.d d7,.d d8,.d (.sl 1 Q),.d (.sl 1 R)]] []=some (.tup [.c (.d (.v (.string (B (tx))))),.c (.d (.v (.bool (true))))],[])):c6 Tryz.prog T1 L1 4 [.c (.d (.v (.string (B (s)))))] []=some (if decide (tx=s)=true then .tup [.agg [.d d1,.d d2,.d d3,.d d4,.d d5,.d d6,.d d7,.d d8,.d (.sl 1 Q),.d (.sl 1 R)],.c (.d (.v (.bool (true))))]else .tup [.agg [nl,nl,zi,zi,zi,nl,nl,es,nl,nl],.c (.d (.v (.bool (false))))],[]):=by
 have hroom:room=70368744177664:=rfl
 dsimp only[V2,M9,G6,O8,a0u,W1,N1,a0v,x6,u9,u4,j8,j4,j2,kR,rd,wi,ws,wb,pw,nl,zi,es]at*
 by_cases e:tx=s
 ·subst e
  simp only[Bool.true_and,Bool.false_and,Bool.and_true,Bool.and_false,Bool.not_true,Bool.not_false,if_true,if_false,Bool.false_eq_true,decide_true]
  exact fn V4 Tryz.func4
 ·simp only[Bool.true_and,Bool.false_and,Bool.and_true,Bool.and_false,Bool.not_true,Bool.not_false,if_true,if_false,Bool.false_eq_true,decide_eq_false e]
  exact fn V4 Tryz.func4
end
end Go.Vsi
